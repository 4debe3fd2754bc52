import PyProof.Rows.All
import HandS.Lambda
import Wide.All
import OpenK.AllK
import Wide.FinOn
import HandS.ForMost
import HandS.Wide
import HandS.IsInst
import HandS.Zip
import HandS.TupAny
import HandS.TupMul
import HandS.Style
import HandS.Walk
import PyProof.ReprRoads
import PyProof.ReprLen
import PyProof.CallFns
import HandS.SetFor
import HandS.Remove
import HandS.Text
import KE.IntBitsLaws
import HandS.Defaults
import HandS.Codes
import HandS.Strs
import KE.IntTextLaws
import PyProof.Rows.RegStrFacts
import PyProof.StrLawsRepr
import HandS.Deep
import PyProof.NeKinds
import KE.KEqDict
import HandS.Exc
import HandS.ExcOwn
import HandS.ExcIs
import HandS.TryOnly
import HandS.EndTab
import KE.KAssignIn
import PyProof.Rows.StrOr
import KE.GoesMore
import KE.GoesEnum
import HandS.Head0
import HandS.Head1
import HandS.Head2
import PySem.Challenge.RW_slopehouse_k03_programs_refused
set_option exponentiation.threshold 256
set_option pp.maxSteps 300
set_option Elab.async false
set_option linter.all false
set_option maxRecDepth 100000
set_option maxHeartbeats 4000000
namespace D
open PySem PySem.W
def loo0 : List PySem.Str := ["_wall", "SlopeError", "BadText", "BadProgram", "TooLong", "BadPoint", "NoValue", "TooGreat", "Corner", "is_whole", "common", "is_fraction", "LETTERS", "BARRED", "MOST_LETTERS"]
def loo1 : List PySem.Str := ["TAKEN", "MOST_POWER", "MOST_TURNS", "MOST_DEEP", "MOST_SIZE", "MOST_INS", "MOST_OUTS", "MOST_PARTS", "MOST_PART_INS", "is_name", "are_names", "are_unlike", "is_among", "is_thing", "is_call"]
def loo2 : List PySem.Str := ["is_doing", "Looked", "Program", "_law_mixed", "_law_folded", "_law_draw", "_law_begun", "_law_names", "_law_common", "_law_lowest", "_law_fraction", "_law_thing", "_law_row", "_law_body", "_law_program"]
def loo3 : List PySem.Str := ["_law_whole", "_law_is_name", "_law_is_row", "_law_is_thing", "_law_is_doing", "_law_body_told", "_law_is_part", "_law_is_program", "_law_many", "_law_odd", "_law_put", "_law_refused", "_law_ahead"]
def loo : List PySem.Str := loo0 ++ loo1 ++ loo2 ++ loo3
theorem ob_km {K : Params → Frag} {as : List Addr} {ek : ∀ P, as = (K P).map (·.1)} {ts : List Addr} (s : SharedT) : (as.map (HandSHeadRun.getT s), ts.map (HandSHeadRun.getT s)) = (kmHook K as ek ts).obs s.abs :=
  Prod.ext (List.map_congr_left fun a _ => HandSHeadRun.getT_eq s a) (List.map_congr_left fun a _ => HandSHeadRun.getT_eq s a)
theorem ob_k {K : Params → Frag} {as : List Addr} {ek : ∀ P, as = (K P).map (·.1)} (s : SharedT) : as.map (HandSHeadRun.getT s) = (kHook K as ek).obs s.abs := List.map_congr_left fun a _ => HandSHeadRun.getT_eq s a
end D
local macro_rules | `(tactic| o_head $H) => `(tactic| refine HandSHeadRun.head_any (r := (PySem.W.OpenLaw.row PySem.Challenge.rw_slopehouse_k03_programs_refused)) (q := PySem.W.view (PySem.W.OpenLaw.row PySem.Challenge.rw_slopehouse_k03_programs_refused).prog [62]) (H := $H) (M := 12000) (loose := D.loo) (d := HandSHeadRun.topDef (PySem.W.OpenLaw.row PySem.Challenge.rw_slopehouse_k03_programs_refused).prog 62) (kwd := []) (fun s => D.ob_k s) (by kernel_rfl) (fun s => by kernel_rfl) ?run (by kernel_rfl) (by kernel_rfl) (by kernel_rfl) (by rfl) (by first | assumption | decide +kernel) (by decide +kernel) ⟨rfl, rfl, rfl, rfl, rfl, by decide +kernel⟩ ?hw ?hc)
section
open PySem PySem.W PyProof.Rows
structure D.Pre (L : Prop) where
  RP : World → Prop
  HC : Prop
  mk2 : (∀ w, RP w) → HC → L
set_option maxHeartbeats 0 in
noncomputable def D.pre : D.Pre PySem.Challenge.rw_slopehouse_k03_programs_refused.Holds := by
  apply D.Pre.mk
  intro h1 h2
  w_on; o_law
  k_head
  case hw => w_witness2
  case run => exact h1
  k_fill
  exact h2
set_option maxHeartbeats 0 in
theorem D.headF : ∀ w : World, D.pre.RP (w.withFollow "special-get-raises" false) := fun w os => by kernel_rfl
set_option maxHeartbeats 0 in
theorem D.headT : ∀ w : World, D.pre.RP (w.withFollow "special-get-raises" true) := fun w os => by kernel_rfl
end

set_option pp.maxSteps 5000
namespace D
open PySem PySem.Spec PyProof.Rows L2

inductive A where
  | non | bl (b : Bool) | int (i : Int) | str (x : Str) | ty (n : String) | loc (p : Addr)
  | tup (xs : List A) | lst (xs : List A) | fls (xs : List A)
instance : Inhabited A := ⟨.non⟩

def Ex (H H' : Hp) : Prop := ∀ p u, H p = some u → H' p = some u
theorem Ex.refl (H : Hp) : Ex H H := by intro p u h; exact h
theorem Ex.trans {H H1 H2 : Hp} (f : Ex H H1) (g : Ex H1 H2) : Ex H H2 := by intro p u h; exact g p u (f p u h)
theorem Ex.rd {H H' : Hp} {a : Addr} {u : HO} (e : Ex H H') (h : Rd H a u) : Rd H' a u := by
  exact h.imp (e a _) fun q => q.imp fun o => e a _
theorem Ex.l {K : PySem.W.Frag} {H H' : Hp} {a : Addr} {xs : List V} (e : Ex H H') (h : SqL K H a xs) : SqL K H' a xs := h.elim (fun h => .inl (e.rd h)) .inr
theorem Ex.t {K : PySem.W.Frag} {H H' : Hp} {a : Addr} {xs : List V} (e : Ex H H') (h : SqT K H a xs) : SqT K H' a xs := h.elim (fun h => .inl (e.rd h)) .inr
theorem Ex.new {H : Hp} {p : Addr} {o : HO} (nl : H p = none) : Ex H (upd H p o) := by
  intro q u e
  exact (upd_ne (ne_of_none e nl)).trans e
theorem Ex.none {H H' : Hp} {p : Addr} (e : Ex H H') (h : H' p = Option.none) : H p = Option.none := by
  cases q : H p with
  | none => rfl
  | some o => rw [e p o q] at h; cases h

mutual
def Rep (K : PySem.W.Frag) (H : Hp) : A → V → Prop
  | .non, v => v = .non
  | .bl b, v => v = .bl b
  | .int i, v => v = .int i
  | .str x, v => v = .str x
  | .ty n, v => v = .ty n
  | .loc p, v => v = .ref p
  | .tup xs, v => ∃ a vs, v = .ref a ∧ SqT K H a vs ∧ RepL K H xs vs
  | .lst xs, v => ∃ a vs, v = .ref a ∧ H a = some (.lst vs) ∧ RepL K H xs vs
  | .fls xs, v => ∃ a vs, v = .ref a ∧ SqL K H a vs ∧ RepL K H xs vs
def RepL (K : PySem.W.Frag) (H : Hp) : List A → List V → Prop
  | [], vs => vs = []
  | x :: xs, vs => ∃ v r, vs = v :: r ∧ Rep K H x v ∧ RepL K H xs r
end
section
variable {K : PySem.W.Frag} {H H' : Hp}
mutual
theorem Rep.mono (e : Ex H H') : ∀ {x : A} {v : V}, Rep K H x v → Rep K H' x v
  | .non, _, h => by simp only [Rep] at h ⊢; exact h
  | .bl _, _, h => by simp only [Rep] at h ⊢; exact h
  | .int _, _, h => by simp only [Rep] at h ⊢; exact h
  | .str _, _, h => by simp only [Rep] at h ⊢; exact h
  | .ty _, _, h => by simp only [Rep] at h ⊢; exact h
  | .loc _, _, h => by simp only [Rep] at h ⊢; exact h
  | .tup xs, _, h => by
    simp only [Rep] at h ⊢
    obtain ⟨a, vs, h1, h2, h3⟩ := h
    exact ⟨a, vs, h1, e.t h2, RepL.mono e h3⟩
  | .lst xs, _, h => by
    simp only [Rep] at h ⊢
    obtain ⟨a, vs, h1, h2, h3⟩ := h
    exact ⟨a, vs, h1, e _ _ h2, RepL.mono e h3⟩
  | .fls xs, _, h => by
    simp only [Rep] at h ⊢
    obtain ⟨a, vs, h1, h2, h3⟩ := h
    exact ⟨a, vs, h1, e.l h2, RepL.mono e h3⟩
theorem RepL.mono (e : Ex H H') : ∀ {xs : List A} {vs : List V}, RepL K H xs vs → RepL K H' xs vs
  | [], _, h => by simp only [RepL] at h ⊢; exact h
  | x :: xs, _, h => by
    simp only [RepL] at h ⊢
    obtain ⟨v, r, h1, h2, h3⟩ := h
    exact ⟨v, r, h1, Rep.mono e h2, RepL.mono e h3⟩
end
theorem RepL.nil : RepL K H [] [] := by simp only [RepL]
theorem RepL.cons {x : A} {xs : List A} {v : V} {vs : List V} (h : Rep K H x v) (t : RepL K H xs vs) : RepL K H (x :: xs) (v :: vs) := by
  simp only [RepL]; exact ⟨v, vs, rfl, h, t⟩
theorem RepL.len : ∀ {xs : List A} {vs : List V}, RepL K H xs vs → vs.length = xs.length
  | [], _, h => by simp only [RepL] at h; rw [h]; rfl
  | x :: xs, _, h => by
    simp only [RepL] at h
    obtain ⟨v, r, rfl, _, h3⟩ := h
    simp [RepL.len h3]
theorem RepL.get : ∀ {xs : List A} {vs : List V} {i : Nat} {x : A}, RepL K H xs vs → xs[i]? = some x → ∃ v, vs[i]? = some v ∧ Rep K H x v
  | [], _, _, _, _, e => by simp at e
  | y :: xs, _, 0, x, h, e => by
    simp only [RepL] at h
    obtain ⟨v, r, rfl, h1, h3⟩ := h
    simp at e; subst e
    exact ⟨v, rfl, h1⟩
  | y :: xs, _, i + 1, x, h, e => by
    simp only [RepL] at h
    obtain ⟨v, r, rfl, h1, h3⟩ := h
    obtain ⟨w, e1, e2⟩ := RepL.get (i := i) h3 (by simpa using e)
    exact ⟨w, by simpa using e1, e2⟩
theorem RepL.rev {xs : List A} {vs : List V} {i : Nat} {v : V} (h : RepL K H xs vs) (e : vs[i]? = some v) : ∃ x, xs[i]? = some x ∧ Rep K H x v := by
  have hl : i < xs.length := by rw [← h.len]; exact (List.getElem?_eq_some_iff.mp e).1
  obtain ⟨w, e1, e2⟩ := h.get (List.getElem?_eq_getElem hl)
  rw [e1] at e; cases e
  exact ⟨_, List.getElem?_eq_getElem hl, e2⟩
theorem RepL.of {xs : List A} : ∀ {vs : List V}, vs.length = xs.length → (∀ (i : Nat) (x : A) (v : V), xs[i]? = some x → vs[i]? = some v → Rep K H x v) → RepL K H xs vs := by
  induction xs with
  | nil => intro vs hl _; cases vs with
    | nil => exact .nil
    | cons v vs => simp at hl
  | cons x xs ih => intro vs hl h; cases vs with
    | nil => simp at hl
    | cons v vs => exact .cons (h 0 x v rfl rfl) (ih (by simpa using hl) fun i y w e1 e2 => h (i + 1) y w (by simpa using e1) (by simpa using e2))
theorem RepL.append {xs ys : List A} {vs ws : List V} (h : RepL K H xs vs) (g : RepL K H ys ws) : RepL K H (xs ++ ys) (vs ++ ws) := by
  induction xs generalizing vs with
  | nil => simp only [RepL] at h; rw [h]; exact g
  | cons x xs ih =>
    simp only [RepL] at h
    obtain ⟨v, r, rfl, h1, h3⟩ := h
    exact .cons h1 (ih h3)
theorem RepL.snoc {xs : List A} {y : A} {vs : List V} {w : V} (h : RepL K H xs vs) (g : Rep K H y w) : RepL K H (xs ++ [y]) (vs ++ [w]) := h.append (.cons g .nil)
theorem RepL.take {xs : List A} {vs : List V} (n : Nat) (h : RepL K H xs vs) : RepL K H (xs.take n) (vs.take n) := by
  refine .of (by simp [h.len]) fun i x v e1 e2 => ?_
  rw [List.getElem?_take] at e1 e2
  split at e1
  · rename_i hi
    rw [if_pos hi] at e2
    obtain ⟨w, e3, r⟩ := h.get e1
    rw [e3] at e2; cases e2; exact r
  · cases e1
theorem RepL.drop {xs : List A} {vs : List V} (n : Nat) (h : RepL K H xs vs) : RepL K H (xs.drop n) (vs.drop n) := by
  refine .of (by simp [h.len]) fun i x v e1 e2 => ?_
  rw [List.getElem?_drop] at e1 e2
  obtain ⟨w, e3, r⟩ := h.get e1
  rw [e3] at e2; cases e2; exact r
theorem RepL.set {xs : List A} {vs : List V} {y : A} {w : V} (n : Nat) (h : RepL K H xs vs) (g : Rep K H y w) : RepL K H (xs.set n y) (vs.set n w) := by
  refine .of (by simp [h.len]) fun i x v e1 e2 => ?_
  rw [List.getElem?_set] at e1 e2
  split at e1
  · rename_i hi
    rw [if_pos hi] at e2
    split at e1
    · split at e2
      · cases e1; cases e2; exact g
      · cases e2
    · cases e1
  · rename_i hi
    rw [if_neg hi] at e2
    obtain ⟨w, e3, r⟩ := h.get e1
    rw [e3] at e2; cases e2; exact r
theorem RepL.reverse {xs : List A} {vs : List V} (h : RepL K H xs vs) : RepL K H xs.reverse vs.reverse := by
  induction xs generalizing vs with
  | nil => simp only [RepL] at h; subst h; exact .nil
  | cons x xs ih =>
    simp only [RepL] at h
    obtain ⟨v, r, rfl, h1, h3⟩ := h
    simp only [List.reverse_cons]
    exact (ih h3).snoc h1
theorem RepL.map {α : Type} {f : α → A} {g : α → V} (h : ∀ a, Rep K H (f a) (g a)) : ∀ l : List α, RepL K H (l.map f) (l.map g)
  | [] => .nil
  | a :: l => .cons (h a) (RepL.map h l)
theorem rep_int {i : Int} {v : V} : Rep K H (.int i) v ↔ v = .int i := by simp only [Rep]
theorem rep_bl {i : Bool} {v : V} : Rep K H (.bl i) v ↔ v = .bl i := by simp only [Rep]
theorem rep_str {i : Str} {v : V} : Rep K H (.str i) v ↔ v = .str i := by simp only [Rep]
theorem rep_non {v : V} : Rep K H .non v ↔ v = .non := by simp only [Rep]
theorem rep_ty {n : String} {v : V} : Rep K H (.ty n) v ↔ v = .ty n := by simp only [Rep]
theorem rep_loc {p : Addr} {v : V} : Rep K H (.loc p) v ↔ v = .ref p := by simp only [Rep]
theorem rep_tup {xs : List A} {v : V} : Rep K H (.tup xs) v ↔ ∃ a vs, v = .ref a ∧ SqT K H a vs ∧ RepL K H xs vs := by simp only [Rep]
theorem rep_lst {xs : List A} {v : V} : Rep K H (.lst xs) v ↔ ∃ a vs, v = .ref a ∧ H a = some (.lst vs) ∧ RepL K H xs vs := by simp only [Rep]
theorem rep_fls {xs : List A} {v : V} : Rep K H (.fls xs) v ↔ ∃ a vs, v = .ref a ∧ SqL K H a vs ∧ RepL K H xs vs := by simp only [Rep]
theorem repL_ints : ∀ {ns : List Int} {vs : List V}, RepL K H (ns.map A.int) vs → vs = ns.map V.int
  | [], _, h => by simp only [List.map_nil, RepL] at h; rw [h]; rfl
  | n :: ns, _, h => by
    simp only [List.map_cons, RepL] at h
    obtain ⟨v, r, rfl, h1, h3⟩ := h
    rw [rep_int] at h1
    rw [h1, repL_ints h3]; rfl
theorem repL_bls : ∀ {ns : List Bool} {vs : List V}, RepL K H (ns.map A.bl) vs → vs = ns.map V.bl
  | [], _, h => by simp only [List.map_nil, RepL] at h; rw [h]; rfl
  | n :: ns, _, h => by
    simp only [List.map_cons, RepL] at h
    obtain ⟨v, r, rfl, h1, h3⟩ := h
    rw [rep_bl] at h1
    rw [h1, repL_bls h3]; rfl
theorem repL_strs : ∀ {ns : List Str} {vs : List V}, RepL K H (ns.map A.str) vs → vs = ns.map V.str
  | [], _, h => by simp only [List.map_nil, RepL] at h; rw [h]; rfl
  | n :: ns, _, h => by
    simp only [List.map_cons, RepL] at h
    obtain ⟨v, r, rfl, h1, h3⟩ := h
    rw [rep_str] at h1
    rw [h1, repL_strs h3]; rfl
end

inductive MO where
  | lst (xs : List A)
  | dic (kvs : List (Key × A))
  | ins (C dx : Addr) (fs : List (Str × A))
  | xd (fs : List (Str × A))
  | exc (a : Addr) (cls : Value) (d : Option Addr)
  | tbl (q : Str)
def XO (a : Addr) (cls : Value) (d : Option Addr) : HO := .ext fun h => ∃ (oe : Obj) (vs : Array Value), h.get? a = some oe ∧ (oe.cls = cls ∧ oe.dict = d) ∧ oe.data = .fields vs
abbrev Mu := Addr → Option MO
def Mu.upd (μ : Mu) (p : Addr) (m : MO) : Mu := fun b => if b = p then some m else μ b
def Mu.del (μ : Mu) (p : Addr) : Mu := fun b => if b = p then none else μ b
theorem Mu.upd_same {μ : Mu} {p : Addr} {m : MO} : μ.upd p m p = some m := by unfold Mu.upd; rw [if_pos rfl]
theorem Mu.upd_ne {μ : Mu} {p q : Addr} {m : MO} (h : q ≠ p) : μ.upd p m q = μ q := by unfold Mu.upd; rw [if_neg h]
theorem Mu.del_ne {μ : Mu} {p q : Addr} (h : q ≠ p) : μ.del p q = μ q := by unfold Mu.del; rw [if_neg h]
theorem Mu.del_same {μ : Mu} {p : Addr} : μ.del p p = none := by unfold Mu.del; rw [if_pos rfl]
theorem Mu.del_upd {μ : Mu} {p : Addr} {m : MO} (h : μ p = none) : (μ.upd p m).del p = μ := by
  funext b; unfold Mu.del Mu.upd; split
  · rename_i e; rw [e, h]
  · rfl
theorem Mu.upd_upd {μ : Mu} {p : Addr} {m n : MO} : (μ.upd p m).upd p n = μ.upd p n := by
  funext b; unfold Mu.upd; split <;> rfl
def RepK (K : PySem.W.Frag) (H : Hp) {κ : Type} : List (κ × A) → List (κ × V) → Prop
  | [], ws => ws = []
  | (k, x) :: r, ws => ∃ v t, ws = (k, v) :: t ∧ Rep K H x v ∧ RepK K H r t
def RepO (K : PySem.W.Frag) (F : Hp) : MO → HO → Prop
  | .lst xs, o => ∃ vs, o = .lst vs ∧ RepL K F xs vs
  | .dic kvs, o => ∃ ws, o = .dK ws ∧ RepK K F kvs ws
  | .ins C dx fs, o => ∃ ws, o = .ins C dx ws ∧ RepK K F fs ws
  | .xd fs, o => ∃ ws, o = .xd ws ∧ RepK K F fs ws
  | .exc a cls d, o => o = XO a cls d
  | .tbl q, o => ∃ ps : Array Value, o = .tbl ps ∧ TriplesOk ps.toList ∧ ∀ (pos : Pos) (cv : Value), codeAmong pos ps.toList = some cv → ∃ c, cv = .ref c ∧ F c = some (LamX.CodeO c q)
section
variable {K : PySem.W.Frag} {H H' : Hp} {κ : Type}
theorem RepK.mono (e : Ex H H') : ∀ {kvs : List (κ × A)} {ws : List (κ × V)}, RepK K H kvs ws → RepK K H' kvs ws
  | [], _, h => h
  | (k, x) :: r, _, ⟨v, t, h1, h2, h3⟩ => ⟨v, t, h1, h2.mono e, RepK.mono e h3⟩
theorem RepO.mono (e : Ex H H') : ∀ {m : MO} {o : HO}, RepO K H m o → RepO K H' m o
  | .lst _, _, ⟨vs, h1, h2⟩ => ⟨vs, h1, h2.mono e⟩
  | .dic _, _, ⟨vs, h1, h2⟩ => ⟨vs, h1, h2.mono e⟩
  | .ins _ _ _, _, ⟨vs, h1, h2⟩ => ⟨vs, h1, h2.mono e⟩
  | .xd _, _, ⟨vs, h1, h2⟩ => ⟨vs, h1, h2.mono e⟩
  | .exc _ _ _, _, h => h
  | .tbl _, _, ⟨ps, h1, h2, h3⟩ => ⟨ps, h1, h2, fun pos cv q => let ⟨c, a, b⟩ := h3 pos cv q; ⟨c, a, e _ _ b⟩⟩
theorem RepK.len : ∀ {kvs : List (κ × A)} {ws : List (κ × V)}, RepK K H kvs ws → ws.length = kvs.length
  | [], _, h => by rw [show _ = [] from h]; rfl
  | (k, x) :: r, _, ⟨v, t, h1, h2, h3⟩ => by rw [h1]; simp [RepK.len h3]
end

structure Rel (K : PySem.W.Frag) (μ : Mu) (M F H : Hp) : Prop where
  sub : Ex F H
  own : ∀ p m, μ p = some m → F p = none ∧ ∃ o, H p = some o ∧ RepO K F m o
  frm : ∀ p o, M p = some o → F p = none ∧ μ p = none ∧ H p = some o
abbrev G := List (Option A)
structure RelS (K : PySem.W.Frag) (Γ : G) (F : Hp) (σ : L2.St) : Prop where
  len : Γ.length = σ.length
  at_ : ∀ (i : Nat) (x : A), Γ[i]? = some (some x) → ∃ v, σ[i]? = some (some v) ∧ Rep K F x v
section
variable {K : PySem.W.Frag} {μ μ' : Mu} {M F F' H H' : Hp} {Γ : G} {σ : L2.St}
theorem RelS.mono (e : Ex F F') (h : RelS K Γ F σ) : RelS K Γ F' σ := ⟨h.len, fun i x q => let ⟨v, h1, h2⟩ := h.at_ i x q; ⟨v, h1, h2.mono e⟩⟩
theorem RelS.set {i : Nat} {x : A} {v : V} (h : RelS K Γ F σ) (r : Rep K F x v) : RelS K (Γ.set i (some x)) F (σ.set i (some v)) := by
  refine ⟨by simp [h.len], fun j y q => ?_⟩
  rw [List.getElem?_set] at q ⊢
  split at q
  · rename_i e
    rw [if_pos e]
    split at q
    · rename_i hi
      rw [if_pos (by rw [← h.len]; exact hi)]
      cases q; exact ⟨v, rfl, r⟩
    · cases q
  · rename_i e
    rw [if_neg e]
    exact h.at_ j y q
theorem RelS.weak {Γ' : G} (h : RelS K Γ F σ) (hl : Γ'.length = Γ.length) (w : ∀ (i : Nat) x, Γ'[i]? = some (some x) → Γ[i]? = some (some x)) : RelS K Γ' F σ :=
  ⟨hl.trans h.len, fun i x q => h.at_ i x (w i x q)⟩
theorem Rel.weak (h : Rel K μ M F H) (w : ∀ p m, μ' p = some m → μ p = some m) : Rel K μ' M F H := by
  refine ⟨h.sub, fun p m e => h.own p m (w p m e), fun p o e => ?_⟩
  obtain ⟨h1, h2, h3⟩ := h.frm p o e
  refine ⟨h1, ?_, h3⟩
  cases q : μ' p with
  | none => rfl
  | some m => rw [w p m q] at h2; cases h2
theorem Rel.freeze {p : Addr} {xs : List A} (h : Rel K μ M F H) (e : μ p = some (.lst xs)) : ∃ F', Ex F F' ∧ Rel K (μ.del p) M F' H ∧ Rep K F' (.lst xs) (.ref p) := by
  obtain ⟨h1, o, h2, vs, rfl, h3⟩ := h.own p _ e
  have ex : Ex F (upd F p (.lst vs)) := .new h1
  refine ⟨upd F p (.lst vs), ex, ⟨fun a o q => ?_, fun q m e' => ?_, fun q o e' => ?_⟩, ?_⟩
  · by_cases ha : a = p
    · subst ha; rw [upd_same] at q; cases q; exact h2
    · rw [upd_ne ha] at q; exact h.sub a o q
  · have hq : q ≠ p := fun z => by rw [z, Mu.del_same] at e'; cases e'
    rw [Mu.del_ne hq] at e'
    obtain ⟨g1, o', g2, g3⟩ := h.own q m e'
    exact ⟨by rw [upd_ne hq]; exact g1, o', g2, g3.mono ex⟩
  · obtain ⟨g1, g2, g3⟩ := h.frm q o e'
    have hq : q ≠ p := fun z => by rw [z, e] at g2; cases g2
    exact ⟨by rw [upd_ne hq]; exact g1, by rw [Mu.del_ne hq]; exact g2, g3⟩
  · rw [rep_lst]; exact ⟨p, vs, rfl, upd_same, h3.mono ex⟩
theorem Rel.new {p : Addr} {m : MO} {o : HO} (h : Rel K μ M F H) (n : H p = none) (r : RepO K F m o) : μ p = none ∧ Rel K (μ.upd p m) M F (upd H p o) := by
  have hF : F p = none := h.sub.none n
  have hμ : μ p = none := by
    cases q : μ p with
    | none => rfl
    | some m => obtain ⟨_, o, e, _⟩ := h.own p m q; rw [n] at e; cases e
  refine ⟨hμ, h.sub.trans (.new n), fun q m' e => ?_, fun q o' e => ?_⟩
  · by_cases hq : q = p
    · subst hq; rw [Mu.upd_same] at e; cases e
      exact ⟨hF, o, upd_same, r⟩
    · rw [Mu.upd_ne hq] at e
      obtain ⟨g1, o', g2, g3⟩ := h.own q m' e
      exact ⟨g1, o', by rw [upd_ne hq]; exact g2, g3⟩
  · obtain ⟨g1, g2, g3⟩ := h.frm q o' e
    have hq : q ≠ p := fun z => by rw [z, n] at g3; cases g3
    exact ⟨g1, by rw [Mu.upd_ne hq]; exact g2, by rw [upd_ne hq]; exact g3⟩
theorem Rel.newF {p : Addr} {o : HO} (h : Rel K μ M F H) (n : H p = none) : Ex F (upd F p o) ∧ Rel K μ M (upd F p o) (upd H p o) := by
  have hF : F p = none := h.sub.none n
  refine ⟨.new hF, fun a u q => ?_, fun q m' e => ?_, fun q o' e => ?_⟩
  · by_cases ha : a = p
    · subst ha; rw [upd_same] at q ⊢; exact q
    · rw [upd_ne ha] at q ⊢; exact h.sub a u q
  · obtain ⟨g1, o', g2, g3⟩ := h.own q m' e
    have hq : q ≠ p := fun z => by rw [z, n] at g2; cases g2
    exact ⟨by rw [upd_ne hq]; exact g1, o', by rw [upd_ne hq]; exact g2, g3.mono (.new hF)⟩
  · obtain ⟨g1, g2, g3⟩ := h.frm q o' e
    have hq : q ≠ p := fun z => by rw [z, n] at g3; cases g3
    exact ⟨by rw [upd_ne hq]; exact g1, g2, by rw [upd_ne hq]; exact g3⟩
theorem Rel.write {p : Addr} {m m' : MO} {o : HO} (h : Rel K μ M F H) (e : μ p = some m) (r : RepO K F m' o) : Rel K (μ.upd p m') M F (upd H p o) := by
  obtain ⟨h1, o0, h2, h3⟩ := h.own p _ e
  refine ⟨fun a u q => ?_, fun q m1 e1 => ?_, fun q o' e' => ?_⟩
  · have ha : a ≠ p := fun z => by rw [z, h1] at q; cases q
    rw [upd_ne ha]; exact h.sub a u q
  · by_cases hq : q = p
    · subst hq; rw [Mu.upd_same] at e1; cases e1
      exact ⟨h1, o, upd_same, r⟩
    · rw [Mu.upd_ne hq] at e1
      obtain ⟨g1, o', g2, g3⟩ := h.own q m1 e1
      exact ⟨g1, o', by rw [upd_ne hq]; exact g2, g3⟩
  · obtain ⟨g1, g2, g3⟩ := h.frm q o' e'
    have hq : q ≠ p := fun z => by rw [z, e] at g2; cases g2
    exact ⟨g1, by rw [Mu.upd_ne hq]; exact g2, by rw [upd_ne hq]; exact g3⟩
end

structure Bx (p : Prop) : Prop where
  o : p
def rdE (X : Cx) (e : Expr) : TE := fun σ H Q => Bx (∀ (pins : List (Addr × Obj)) (s : Shared), Inv X pins σ H s → wpAny (model X.prog X.w) X.A (eval e X.env) (EP X pins σ Q) X.xe s)
theorem pe_rd {X : Cx} {e : Expr} : PE X e (rdE X e) := ⟨fun pins s _ _ _ I h => h.o pins s I⟩
theorem rd_pe {X : Cx} {e : Expr} {t : TE} (h : PE X e t) {σ : L2.St} {H : Hp} {Q : VK} (q : t σ H Q) : rdE X e σ H Q := ⟨fun pins s I => h.run pins s σ H Q I q⟩
theorem rdE_mono {X : Cx} {e : Expr} {σ : L2.St} {H : Hp} {Q Q' : VK} (h : rdE X e σ H Q) (w : ∀ v H', Q v H' → Q' v H') : rdE X e σ H Q' :=
  ⟨fun pins s I => thn (h.o pins s I) fun _ _ ⟨v, H', I', r, q⟩ => ⟨v, H', I', r, w v H' q⟩⟩
def rdT (X : Cx) (e : Expr) : TT := fun σ H Q => Bx (∀ (pins : List (Addr × Obj)) (s : Shared), Inv X pins σ H s → wpAny (model X.prog X.w) X.A (isTrue e X.env (eval e X.env)) (TP X pins σ Q) X.xe s)
theorem pt_rd {X : Cx} {e : Expr} : PT X e (rdT X e) := ⟨fun pins s _ _ _ I h => h.o pins s I⟩
theorem rd_pt {X : Cx} {e : Expr} {t : TT} (h : PT X e t) {σ : L2.St} {H : Hp} {Q : Bool → Hp → Prop} (q : t σ H Q) : rdT X e σ H Q := ⟨fun pins s I => h.run pins s σ H Q I q⟩
def rdA (X : Cx) (es : List Expr) : TA := fun σ H Q => Bx (∀ (pos : Pos) (pins : List (Addr × Obj)) (s : Shared), Inv X pins σ H s → wpAny (model X.prog X.w) X.A (spliced (backTo pos (starEach es X.env))) (AP X pins σ Q) X.xe s)
theorem pa_rd {X : Cx} {es : List Expr} : PA X es (rdA X es) := ⟨fun pos pins s _ _ _ I h => h.o pos pins s I⟩
theorem rd_pa {X : Cx} {es : List Expr} {t : TA} (h : PA X es t) {σ : L2.St} {H : Hp} {Q : List V → Hp → Prop} (q : t σ H Q) : rdA X es σ H Q := ⟨fun pos pins s I => h.run pos pins s σ H Q I q⟩
def rdS (X : Cx) (st : Stmt) : TS := fun D σ H => Bx (∀ (pins : List (Addr × Obj)) (s : Shared), Inv X pins σ H s → wpAny (model X.prog X.w) X.A (exec st X.env) (SP X pins D) X.xe s)
theorem ps_rd {X : Cx} {st : Stmt} : PS X st (rdS X st) := ⟨fun pins s _ _ _ I h => h.o pins s I⟩
theorem rd_ps {X : Cx} {st : Stmt} {t : TS} (h : PS X st t) {σ : L2.St} {H : Hp} {D : Ends} (q : t D σ H) : rdS X st D σ H := ⟨fun pins s I => h.run pins s σ H D I q⟩
def rdSs (X : Cx) (st : List Stmt) : TS := fun D σ H => Bx (∀ (pins : List (Addr × Obj)) (s : Shared), Inv X pins σ H s → wpAny (model X.prog X.w) X.A (execs st X.env) (SP X pins D) X.xe s)
theorem pss_rd {X : Cx} {st : List Stmt} : PSs X st (rdSs X st) := ⟨fun pins s _ _ _ I h => h.o pins s I⟩
theorem rd_pss {X : Cx} {st : List Stmt} {t : TS} (h : PSs X st t) {σ : L2.St} {H : Hp} {D : Ends} (q : t D σ H) : rdSs X st D σ H := ⟨fun pins s I => h.run pins s σ H D I q⟩
def rdG (X : Cx) (tg : Expr) : TG := fun v σ H Q => Bx (∀ (pins : List (Addr × Obj)) (s : Shared) (u : Value), Inv X pins σ H s → RelV v u →
    wpAny (model X.prog X.w) X.A (assign tg X.env u) (fun _ s' => ∃ σ' H', Inv X pins σ' H' s' ∧ Q σ' H') X.xe s)
theorem pg_rd {X : Cx} {e : Expr} : PG X e (rdG X e) := ⟨fun pins s _ _ _ u _ I r h => h.o pins s u I r⟩
theorem rd_pg {X : Cx} {e : Expr} {t : TG} (h : PG X e t) {v : V} {σ : L2.St} {H : Hp} {Q : L2.St → Hp → Prop} (q : t v σ H Q) : rdG X e v σ H Q := ⟨fun pins s u I r => h.run pins s σ H v u Q I r q⟩
def rdOp (X : Cx) (f : Value → Value → Sem Value) : R2 := fun x y H Q => Bx (∀ (pins : List (Addr × Obj)) (s : Shared) (σ : L2.St) (v u : Value), Inv X pins σ H s → RelV x v → RelV y u → wpAny (model X.prog X.w) X.A (f v u) (EP X pins σ Q) X.xe s)
theorem opr_rd {X : Cx} {f : Value → Value → Sem Value} : OpR X f (rdOp X f) := fun pins s σ H x y v u Q I r1 r2 h => h.o pins s σ v u I r1 r2
theorem rd_opr {X : Cx} {f : Value → Value → Sem Value} {r : R2} (h : OpR X f r) {x y : V} {H : Hp} {Q : VK} (q : r x y H Q) : rdOp X f x y H Q := ⟨fun pins s σ v u I r1 r2 => h pins s σ H x y v u Q I r1 r2 q⟩

structure Bs where
  M : Hp
  F : Hp
structure Bs.ok (B : Bs) (M F : Hp) : Prop where
  m : Ex B.M M
  f : Ex B.F F
theorem Bs.ok.mono {B : Bs} {M F F' : Hp} (h : B.ok M F) (e : Ex F F') : B.ok M F' := ⟨h.m, h.f.trans e⟩
theorem Bs.ok.up {B : Bs} {M M' F : Hp} (h : B.ok M F) (e : Ex M M') : B.ok M' F := ⟨h.m.trans e, h.f⟩
theorem Bs.ok.own (M F : Hp) : Bs.ok ⟨M, F⟩ M F := ⟨.refl _, .refl _⟩
def QE (K : PySem.W.Frag) (M F : Hp) (Q : A → Mu → Prop) : VK := fun v H' => ∃ x F' μ', Ex F F' ∧ Rel K μ' M F' H' ∧ Rep K F' x v ∧ Q x μ'
def wE (B : Bs) (X : Cx) (e : Expr) (Γ : G) (μ : Mu) (Q : A → Mu → Prop) : Prop := ∀ σ M F H, B.ok M F → RelS X.K Γ F σ → Rel X.K μ M F H → rdE X e σ H (QE X.K M F Q)
def QT (K : PySem.W.Frag) (M F : Hp) (Q : Bool → Mu → Prop) : Bool → Hp → Prop := fun b H' => ∃ F' μ', Ex F F' ∧ Rel K μ' M F' H' ∧ Q b μ'
def wT (B : Bs) (X : Cx) (e : Expr) (Γ : G) (μ : Mu) (Q : Bool → Mu → Prop) : Prop := ∀ σ M F H, B.ok M F → RelS X.K Γ F σ → Rel X.K μ M F H → rdT X e σ H (QT X.K M F Q)
def QA (K : PySem.W.Frag) (M F : Hp) (Q : List A → Mu → Prop) : List V → Hp → Prop := fun vs H' => ∃ xs F' μ', Ex F F' ∧ Rel K μ' M F' H' ∧ RepL K F' xs vs ∧ Q xs μ'
def wA (B : Bs) (X : Cx) (es : List Expr) (Γ : G) (μ : Mu) (Q : List A → Mu → Prop) : Prop := ∀ σ M F H, B.ok M F → RelS X.K Γ F σ → Rel X.K μ M F H → rdA X es σ H (QA X.K M F Q)
structure AD where
  nx : G → Mu → Prop
  rt : A → Mu → Prop
  bk : G → Mu → Prop := fun _ _ => False
  ct : G → Mu → Prop := fun _ _ => False
def QS (K : PySem.W.Frag) (M F : Hp) (Q : G → Mu → Prop) : L2.St → Hp → Prop := fun σ' H' => ∃ Γ' F' μ', Ex F F' ∧ RelS K Γ' F' σ' ∧ Rel K μ' M F' H' ∧ Q Γ' μ'
def ends (K : PySem.W.Frag) (M F : Hp) (D : AD) : Ends := { nx := QS K M F D.nx, rt := QE K M F D.rt, bk := QS K M F D.bk, ct := QS K M F D.ct }
def wS (B : Bs) (X : Cx) (st : Stmt) (Γ : G) (μ : Mu) (D : AD) : Prop := ∀ σ M F H, B.ok M F → RelS X.K Γ F σ → Rel X.K μ M F H → rdS X st (ends X.K M F D) σ H
def wSs (B : Bs) (X : Cx) (st : List Stmt) (Γ : G) (μ : Mu) (D : AD) : Prop := ∀ σ M F H, B.ok M F → RelS X.K Γ F σ → Rel X.K μ M F H → rdSs X st (ends X.K M F D) σ H
def wG (B : Bs) (X : Cx) (tg : Expr) (x : A) (Γ : G) (μ : Mu) (Q : G → Mu → Prop) : Prop := ∀ σ M F H v, B.ok M F → RelS X.K Γ F σ → Rel X.K μ M F H → Rep X.K F x v → rdG X tg v σ H (QS X.K M F Q)
def wO (X : Cx) (f : Value → Value → Sem Value) (x y : A) (μ : Mu) (Q : A → Mu → Prop) : Prop := ∀ M F H v w, Rel X.K μ M F H → Rep X.K F x v → Rep X.K F y w → rdOp X f v w H (QE X.K M F Q)

section
variable {B : Bs} {X : Cx} {Γ : G} {μ : Mu}
theorem QE.mono {K : PySem.W.Frag} {M F F1 : Hp} {Q : A → Mu → Prop} (e : Ex F F1) {v : V} {H : Hp} (h : QE K M F1 Q v H) : QE K M F Q v H :=
  let ⟨x, F', μ', h1, h2⟩ := h; ⟨x, F', μ', e.trans h1, h2⟩
theorem QT.mono {K : PySem.W.Frag} {M F F1 : Hp} {Q : Bool → Mu → Prop} (e : Ex F F1) {v : Bool} {H : Hp} (h : QT K M F1 Q v H) : QT K M F Q v H :=
  let ⟨F', μ', h1, h2⟩ := h; ⟨F', μ', e.trans h1, h2⟩
theorem QA.mono {K : PySem.W.Frag} {M F F1 : Hp} {Q : List A → Mu → Prop} (e : Ex F F1) {v : List V} {H : Hp} (h : QA K M F1 Q v H) : QA K M F Q v H :=
  let ⟨x, F', μ', h1, h2⟩ := h; ⟨x, F', μ', e.trans h1, h2⟩
theorem QS.mono {K : PySem.W.Frag} {M F F1 : Hp} {Q : G → Mu → Prop} (e : Ex F F1) {σ : L2.St} {H : Hp} (h : QS K M F1 Q σ H) : QS K M F Q σ H :=
  let ⟨x, F', μ', h1, h2⟩ := h; ⟨x, F', μ', e.trans h1, h2⟩
theorem rdE.imp {e : Expr} {σ : L2.St} {H : Hp} {Q Q' : VK} (h : rdE X e σ H Q) (w : ∀ v H', Q v H' → Q' v H') : rdE X e σ H Q' := rdE_mono h w
theorem rdS.imp {e : Stmt} {σ : L2.St} {H : Hp} {D D' : Ends} (h : rdS X e D σ H) (w1 : ∀ σ H, D.nx σ H → D'.nx σ H) (w2 : ∀ v H, D.rt v H → D'.rt v H) (w3 : ∀ σ H, D.bk σ H → D'.bk σ H) (w4 : ∀ σ H, D.ct σ H → D'.ct σ H) : rdS X e D' σ H := ⟨fun pins s I => thn (h.o pins s I) fun f s' q => by
  cases f with
  | next => obtain ⟨a, b, c, d⟩ := q; exact ⟨a, b, c, w1 _ _ d⟩
  | brk => obtain ⟨a, b, c, d⟩ := q; exact ⟨a, b, c, w3 _ _ d⟩
  | cont => obtain ⟨a, b, c, d⟩ := q; exact ⟨a, b, c, w4 _ _ d⟩
  | ret u => obtain ⟨v, a, b, c, r, d⟩ := q; exact ⟨v, a, b, c, r, w2 _ _ d⟩⟩
theorem rdSs.imp {e : List Stmt} {σ : L2.St} {H : Hp} {D D' : Ends} (h : rdSs X e D σ H) (w1 : ∀ σ H, D.nx σ H → D'.nx σ H) (w2 : ∀ v H, D.rt v H → D'.rt v H) (w3 : ∀ σ H, D.bk σ H → D'.bk σ H) (w4 : ∀ σ H, D.ct σ H → D'.ct σ H) : rdSs X e D' σ H := ⟨fun pins s I => thn (h.o pins s I) fun f s' q => by
  cases f with
  | next => obtain ⟨a, b, c, d⟩ := q; exact ⟨a, b, c, w1 _ _ d⟩
  | brk => obtain ⟨a, b, c, d⟩ := q; exact ⟨a, b, c, w3 _ _ d⟩
  | cont => obtain ⟨a, b, c, d⟩ := q; exact ⟨a, b, c, w4 _ _ d⟩
  | ret u => obtain ⟨v, a, b, c, r, d⟩ := q; exact ⟨v, a, b, c, r, w2 _ _ d⟩⟩
theorem ends_mono {e : List Stmt} {σ : L2.St} {H M F F1 : Hp} {D : AD} (ex : Ex F F1) (h : rdSs X e (ends X.K M F1 D) σ H) : rdSs X e (ends X.K M F D) σ H :=
  h.imp (fun _ _ q => QS.mono ex q) (fun _ _ q => QE.mono ex q) (fun _ _ q => QS.mono ex q) (fun _ _ q => QS.mono ex q)
theorem ends_mono1 {e : Stmt} {σ : L2.St} {H M F F1 : Hp} {D : AD} (ex : Ex F F1) (h : rdS X e (ends X.K M F1 D) σ H) : rdS X e (ends X.K M F D) σ H :=
  h.imp (fun _ _ q => QS.mono ex q) (fun _ _ q => QE.mono ex q) (fun _ _ q => QS.mono ex q) (fun _ _ q => QS.mono ex q)
theorem QE.pure {K : PySem.W.Frag} {M F H : Hp} {Q : A → Mu → Prop} {x : A} {v : V} (r : Rel K μ M F H) (h : Rep K F x v) (q : Q x μ) : QE K M F Q v H := ⟨x, F, μ, .refl _, r, h, q⟩
end
end D

namespace D
open PySem PySem.Spec PyProof.Rows L2

def rdC (X : Cx) (f : Value) : List V → Hp → VK → Prop := fun xs H Q => Bx (∀ (pins : List (Addr × Obj)) (s : Shared) (σ : L2.St) (us : List Value), Inv X pins σ H s → Vals xs us → wpAny (model X.prog X.w) X.A (call f us) (EP X pins σ Q) X.xe s)
def wC (X : Cx) (f : Value) (xs : List A) (μ : Mu) (Q : A → Mu → Prop) : Prop := ∀ M F H vs, Rel X.K μ M F H → RepL X.K F xs vs → rdC X f vs H (QE X.K M F Q)

section
variable {B : Bs} {X : Cx} {Γ : G} {μ : Mu} {Q : A → Mu → Prop} {a b c e : Expr} {es : List Expr} {pos : Pos}

theorem wE.imp {Q' : A → Mu → Prop} (h : wE B X e Γ μ Q) (w : ∀ x μ', Q x μ' → Q' x μ') : wE B X e Γ μ Q' := fun σ M F H bo rs r =>
  (h σ M F H bo rs r).imp fun v H' ⟨x, F', μ', h1, h2, h3, h4⟩ => ⟨x, F', μ', h1, h2, h3, w _ _ h4⟩
theorem wE_frz (h : wE B X e Γ μ fun x μ' => ∃ p xs, x = .loc p ∧ μ' p = some (.lst xs) ∧ Q (.lst xs) (μ'.del p)) : wE B X e Γ μ Q := fun σ M F H bo rs r =>
  (h σ M F H bo rs r).imp fun v H' ⟨x, F', μ', h1, h2, h3, p, xs, h4, h5, h6⟩ => by
    subst h4
    rw [rep_loc] at h3
    obtain ⟨F2, e2, r2, q2⟩ := h2.freeze h5
    exact ⟨_, F2, _, h1.trans e2, r2, by rw [h3]; exact q2, h6⟩
theorem wE_weak {μ' : Mu} (w : ∀ p m, μ' p = some m → μ p = some m) (h : wE B X e Γ μ' Q) : wE B X e Γ μ Q := fun σ M F H bo rs r => h σ M F H bo rs (r.weak w)
theorem wE_of {t : TE} (h : PE X e t) (q : ∀ σ M F H, B.ok M F → RelS X.K Γ F σ → Rel X.K μ M F H → t σ H (QE X.K M F Q)) : wE B X e Γ μ Q := fun σ M F H bo rs r => rd_pe h (q σ M F H bo rs r)

theorem wE_name (i : Nat) {x : Str} {y : A} (hi : Γ[i]? = some (some y) := by rfl) (q : Q y μ) (hN : X.N[i]? = some x := by rfl)
    (hv : Vis X.env.scope x := by first | exact Or.inl rfl | exact Or.inr (Or.inl rfl) | exact Or.inr (Or.inr rfl)) (hd : (x == ("__debug__" : Str)) = false := by decide) (hcd : (x == ("__classdict__" : Str)) = false := by decide) :
    wE B X (.Name x pos) Γ μ Q := wE_of (pe_var hN hv hd hcd) fun σ M F H bo rs r => by
  obtain ⟨v, h1, h2⟩ := rs.at_ i y hi
  exact ⟨v, h1, .pure r h2 q⟩
theorem wE_int {i : Int} {j} (q : Q (.int i) μ) : wE B X (.Constant (.int i) j pos) Γ μ Q := wE_of pe_int fun σ M F H bo rs r => .pure r (rep_int.mpr rfl) q
theorem wE_bl {i : Bool} {j} (q : Q (.bl i) μ) : wE B X (.Constant (.bool i) j pos) Γ μ Q := wE_of pe_bl fun σ M F H bo rs r => .pure r (rep_bl.mpr rfl) q
theorem wE_non {j} (q : Q .non μ) : wE B X (.Constant .none j pos) Γ μ Q := wE_of pe_non fun σ M F H bo rs r => .pure r (rep_non.mpr rfl) q
theorem wE_str {x : Str} {j} (q : Q (.str x) μ) : wE B X (.Constant (.str x) j pos) Γ μ Q := wE_of pe_str fun σ M F H bo rs r => .pure r (rep_str.mpr rfl) q
structure Kn (K : PySem.W.Frag) (mg : Str → Option Value) (x : Str) (y : A) : Prop where
  ex : ∃ v u, mg x = some u ∧ RelV v u ∧ ∀ F, Rep K F y v
theorem wE_glob {x : Str} {y : A} (k : Kn X.K X.mg x y) (q : Q y μ) (hg : Gl X x := by rfl) (hd : (x == ("__debug__" : Str)) = false := by decide) : wE B X (.Name x pos) Γ μ Q := by
  obtain ⟨v, u, h1, h2, h3⟩ := k.ex
  exact wE_of (pe_glob hg h1 h2 hd) fun σ M F H bo rs r => .pure r (h3 F) q
theorem wE_type {x : Str} {n : String} (hm : X.mg x = none) (hv : bootBuiltins x = some (.type n)) (q : Q (.ty n) μ) (hg : Gl X x := by rfl) (hn : x ≠ "__name__" := by decide) (hd : (x == ("__debug__" : Str)) = false := by decide) : wE B X (.Name x pos) Γ μ Q :=
  wE_of (pe_bltn (v := .ty n) hg hm hv rfl hn hd) fun σ M F H bo rs r => .pure r (rep_ty.mpr rfl) q

theorem wO_of {f : Value → Value → Sem Value} {r : R2} {x y : A} (h : OpR X f r) (q : ∀ M F H v w, Rel X.K μ M F H → Rep X.K F x v → Rep X.K F y w → r v w H (QE X.K M F Q)) : wO X f x y μ Q :=
  fun M F H v w rl r1 r2 => rd_opr h (q M F H v w rl r1 r2)
theorem wE_bin {op : Operator} (h : wE B X a Γ μ fun x μ1 => wE B X b Γ μ1 fun y μ2 => wO X (binaryOp op) x y μ2 Q) : wE B X (.BinOp a op b pos) Γ μ Q := wE_of (pe_op opr_rd pe_rd pe_rd) fun σ M F H bo rs r => by
  refine (h σ M F H bo rs r).imp fun v H1 ⟨x, F1, μ1, e1, r1, p1, q1⟩ => ?_
  refine (q1 σ M F1 H1 (bo.mono e1) (rs.mono e1) r1).imp fun w H2 ⟨y, F2, μ2, e2, r2, p2, q2⟩ => ?_
  exact ⟨fun pins s σ' v' u' I hv hw => thn ((q2 M F2 H2 v w r2 (p1.mono e2) p2).o pins s σ' v' u' I hv hw) fun _ _ ⟨z, H3, I3, r3, q3⟩ => ⟨z, H3, I3, r3, q3.mono (e1.trans e2)⟩⟩
theorem wE_cmp {op : CmpOp} (h : wE B X a Γ μ fun x μ1 => wE B X b Γ μ1 fun y μ2 => wO X (compareOp op) x y μ2 Q) (hm : behindInMarks op b = false := by first | exact nomark _ | rfl) : wE B X (.Compare a [op] [b] pos) Γ μ Q := wE_of (pe_cmpR opr_rd pe_rd pe_rd hm) fun σ M F H bo rs r => by
  refine (h σ M F H bo rs r).imp fun v H1 ⟨x, F1, μ1, e1, r1, p1, q1⟩ => ?_
  refine (q1 σ M F1 H1 (bo.mono e1) (rs.mono e1) r1).imp fun w H2 ⟨y, F2, μ2, e2, r2, p2, q2⟩ => ?_
  exact ⟨fun pins s σ' v' u' I hv hw => thn ((q2 M F2 H2 v w r2 (p1.mono e2) p2).o pins s σ' v' u' I hv hw) fun _ _ ⟨z, H3, I3, r3, q3⟩ => ⟨z, H3, I3, r3, q3.mono (e1.trans e2)⟩⟩
theorem wE_un {op : UnaryOp} {r : V → Hp → VK → Prop} (ho : UnR X (unaryOp op) r) (h : wE B X a Γ μ fun x μ1 => ∀ M F H v, Rel X.K μ1 M F H → Rep X.K F x v → r v H (QE X.K M F Q))
    (mono : ∀ v H Q Q', (∀ z H', Q z H' → Q' z H') → r v H Q → r v H Q') : wE B X (.UnaryOp op a pos) Γ μ Q := wE_of (pe_un ho pe_rd) fun σ M F H bo rs r => by
  refine (h σ M F H bo rs r).imp fun v H1 ⟨x, F1, μ1, e1, r1, p1, q1⟩ => ?_
  exact mono _ _ _ _ (fun _ _ q => q.mono e1) (q1 M F1 H1 v r1 p1)
theorem wE_neg (h : wE B X a Γ μ fun x μ1 => ∃ i, x = .int i ∧ Q (.int (-i)) μ1) : wE B X (.UnaryOp .USub a pos) Γ μ Q :=
  wE_un un_neg (h.imp fun x μ1 ⟨i, e, q⟩ M F H v rl rp => by
    subst e; rw [rep_int] at rp
    exact ⟨i, rp, .pure rl (rep_int.mpr rfl) q⟩) fun v H Q Q' w ⟨i, e, q⟩ => ⟨i, e, w _ _ q⟩
theorem wE_not (h : wE B X a Γ μ fun x μ1 => ∃ k, x = .bl k ∧ Q (.bl (!k)) μ1) : wE B X (.UnaryOp .Not a pos) Γ μ Q := wE_of (pe_not pe_rd) fun σ M F H bo rs r => by
  refine (h σ M F H bo rs r).imp fun v H1 ⟨x, F1, μ1, e1, r1, p1, k, ek, q1⟩ => ?_
  subst ek; rw [rep_bl] at p1
  exact ⟨k, p1, _, F1, μ1, e1, r1, rep_bl.mpr rfl, q1⟩
theorem wE_one {op} (h : wE B X a Γ μ Q) : wE B X (.BoolOp op [a] pos) Γ μ Q := wE_of (pe_one pe_rd) fun σ M F H bo rs r => h σ M F H bo rs r
theorem wE_and (h : wE B X a Γ μ fun x μ1 => ∃ k, x = .bl k ∧ (k = true → wE B X (.BoolOp .And (b :: es) pos) Γ μ1 Q) ∧ (k = false → Q (.bl false) μ1)) : wE B X (.BoolOp .And (a :: b :: es) pos) Γ μ Q := wE_of (pe_and pe_rd pe_rd) fun σ M F H bo rs r => by
  refine (h σ M F H bo rs r).imp fun v H1 ⟨x, F1, μ1, e1, r1, p1, k, ek, q1, q2⟩ => ?_
  subst ek; rw [rep_bl] at p1
  refine ⟨k, p1, ?_⟩
  cases k with
  | true => exact iteT ((q1 rfl σ M F1 H1 (bo.mono e1) (rs.mono e1) r1).imp fun _ _ q => q.mono e1)
  | false => exact iteF ⟨_, F1, μ1, e1, r1, rep_bl.mpr rfl, q2 rfl⟩
theorem wE_or (h : wE B X a Γ μ fun x μ1 => ∃ k, x = .bl k ∧ (k = true → Q (.bl true) μ1) ∧ (k = false → wE B X (.BoolOp .Or (b :: es) pos) Γ μ1 Q)) : wE B X (.BoolOp .Or (a :: b :: es) pos) Γ μ Q := wE_of (pe_or pe_rd pe_rd) fun σ M F H bo rs r => by
  refine (h σ M F H bo rs r).imp fun v H1 ⟨x, F1, μ1, e1, r1, p1, k, ek, q1, q2⟩ => ?_
  subst ek; rw [rep_bl] at p1
  refine ⟨k, p1, ?_⟩
  cases k with
  | true => exact iteT ⟨_, F1, μ1, e1, r1, rep_bl.mpr rfl, q1 rfl⟩
  | false => exact iteF ((q2 rfl σ M F1 H1 (bo.mono e1) (rs.mono e1) r1).imp fun _ _ q => q.mono e1)

theorem rdT.imp {σ : L2.St} {H : Hp} {Q Q' : Bool → Hp → Prop} (h : rdT X e σ H Q) (w : ∀ v H', Q v H' → Q' v H') : rdT X e σ H Q' :=
  ⟨fun pins s I => thn (h.o pins s I) fun _ _ ⟨H', I', q⟩ => ⟨H', I', w _ _ q⟩⟩
variable {QB : Bool → Mu → Prop}
theorem wT.imp {Q' : Bool → Mu → Prop} (h : wT B X e Γ μ QB) (w : ∀ x μ', QB x μ' → Q' x μ') : wT B X e Γ μ Q' := fun σ M F H bo rs r =>
  (h σ M F H bo rs r).imp fun v H' ⟨F', μ', h1, h2, h4⟩ => ⟨F', μ', h1, h2, w _ _ h4⟩
theorem wT_of {t : TT} (h : PT X e t) (q : ∀ σ M F H, B.ok M F → RelS X.K Γ F σ → Rel X.K μ M F H → t σ H (QT X.K M F QB)) : wT B X e Γ μ QB := fun σ M F H bo rs r => rd_pt h (q σ M F H bo rs r)
theorem wT_val (h : wE B X e Γ μ fun x μ1 => ∃ k, x = .bl k ∧ QB k μ1) (he : ∀ whole, isTrue e X.env whole = (do let v ← whole; standAt e.pos; holding [v] (truthy v)) := by intro _; rfl) : wT B X e Γ μ QB := wT_of (pt_val pe_rd he) fun σ M F H bo rs r => by
  refine (h σ M F H bo rs r).imp fun v H1 ⟨x, F1, μ1, e1, r1, p1, k, ek, q1⟩ => ?_
  subst ek; rw [rep_bl] at p1
  exact ⟨k, p1, F1, μ1, e1, r1, q1⟩
theorem wT_cmp {op : CmpOp} (h : wE B X a Γ μ fun x μ1 => wE B X b Γ μ1 fun y μ2 => wO X (compareOp op) x y μ2 fun z μ3 => ∃ k, z = .bl k ∧ QB k μ3) (hm : behindInMarks op b = false := by first | exact nomark _ | rfl) : wT B X (.Compare a [op] [b] pos) Γ μ QB := wT_of (pt_cmpR opr_rd pe_rd pe_rd hm) fun σ M F H bo rs r => by
  refine (h σ M F H bo rs r).imp fun v H1 ⟨x, F1, μ1, e1, r1, p1, q1⟩ => ?_
  refine (q1 σ M F1 H1 (bo.mono e1) (rs.mono e1) r1).imp fun w H2 ⟨y, F2, μ2, e2, r2, p2, q2⟩ => ?_
  exact ⟨fun pins s σ' v' u' I hv hw => thn ((q2 M F2 H2 v w r2 (p1.mono e2) p2).o pins s σ' v' u' I hv hw) fun _ _ ⟨z, H3, I3, r3, x3, F3, μ3, e3, rl3, p3, k, ek, q3⟩ => by
    subst ek; rw [rep_bl] at p3
    exact ⟨z, H3, I3, r3, k, p3, F3, μ3, (e1.trans e2).trans e3, rl3, q3⟩⟩
theorem wT_not (h : wT B X a Γ μ fun k μ1 => QB (!k) μ1) : wT B X (.UnaryOp .Not a pos) Γ μ QB := wT_of (pt_not pt_rd) fun σ M F H bo rs r =>
  (h σ M F H bo rs r).imp fun k H1 ⟨F1, μ1, e1, r1, q1⟩ => ⟨F1, μ1, e1, r1, q1⟩
def rdW (X : Cx) (e : Expr) : TT := fun σ H Q => Bx (∀ (whole : Sem Value) (pins : List (Addr × Obj)) (s : Shared), Inv X pins σ H s → wpAny (model X.prog X.w) X.A (isTrue e X.env whole) (TP X pins σ Q) X.xe s)
theorem pw_rd : PW X e (rdW X e) := ⟨fun wh pins s _ _ _ I h => h.o wh pins s I⟩
theorem rd_pw {t : TT} (h : PW X e t) {σ : L2.St} {H : Hp} {Q : Bool → Hp → Prop} (q : t σ H Q) : rdW X e σ H Q := ⟨fun wh pins s I => h.run wh pins s σ H Q I q⟩
theorem rdW.imp {σ : L2.St} {H : Hp} {Q Q' : Bool → Hp → Prop} (h : rdW X e σ H Q) (w : ∀ v H', Q v H' → Q' v H') : rdW X e σ H Q' :=
  ⟨fun wh pins s I => thn (h.o wh pins s I) fun _ _ ⟨H', I', q⟩ => ⟨H', I', w _ _ q⟩⟩
def wW (B : Bs) (X : Cx) (e : Expr) (Γ : G) (μ : Mu) (Q : Bool → Mu → Prop) : Prop := ∀ σ M F H, B.ok M F → RelS X.K Γ F σ → Rel X.K μ M F H → rdW X e σ H (QT X.K M F Q)
theorem wT_chain (h : wW B X e Γ μ QB) : wT B X e Γ μ QB := wT_of (PW.pt pw_rd) h
theorem wW_and1 (h : wT B X a Γ μ QB) : wW B X (.BoolOp .And [a] pos) Γ μ QB := fun σ M F H bo rs r => rd_pw (pw_and1 pt_rd) (h σ M F H bo rs r)
theorem wW_or1 (h : wT B X a Γ μ QB) : wW B X (.BoolOp .Or [a] pos) Γ μ QB := fun σ M F H bo rs r => rd_pw (pw_or1 pt_rd) (h σ M F H bo rs r)
theorem wW_and (h : wT B X a Γ μ fun k μ1 => (k = true → wW B X (.BoolOp .And (b :: es) pos) Γ μ1 QB) ∧ (k = false → QB false μ1)) : wW B X (.BoolOp .And (a :: b :: es) pos) Γ μ QB := fun σ M F H bo rs r => rd_pw (pw_and pt_rd pw_rd) (by
  refine (h σ M F H bo rs r).imp fun k H1 ⟨F1, μ1, e1, r1, q1, q2⟩ => ?_
  cases k with
  | true => exact iteT ((q1 rfl σ M F1 H1 (bo.mono e1) (rs.mono e1) r1).imp fun _ _ q => q.mono e1)
  | false => exact iteF ⟨F1, μ1, e1, r1, q2 rfl⟩)
theorem wW_or (h : wT B X a Γ μ fun k μ1 => (k = true → QB true μ1) ∧ (k = false → wW B X (.BoolOp .Or (b :: es) pos) Γ μ1 QB)) : wW B X (.BoolOp .Or (a :: b :: es) pos) Γ μ QB := fun σ M F H bo rs r => rd_pw (pw_or pt_rd pw_rd) (by
  refine (h σ M F H bo rs r).imp fun k H1 ⟨F1, μ1, e1, r1, q1, q2⟩ => ?_
  cases k with
  | true => exact iteT ⟨F1, μ1, e1, r1, q1 rfl⟩
  | false => exact iteF ((q2 rfl σ M F1 H1 (bo.mono e1) (rs.mono e1) r1).imp fun _ _ q => q.mono e1))
theorem wE_if (h : wT B X c Γ μ fun k μ1 => (k = true → wE B X a Γ μ1 Q) ∧ (k = false → wE B X b Γ μ1 Q)) : wE B X (.IfExp c a b pos) Γ μ Q := wE_of (pe_ifExp pt_rd pe_rd pe_rd) fun σ M F H bo rs r => by
  refine (h σ M F H bo rs r).imp fun k H1 ⟨F1, μ1, e1, r1, q1, q2⟩ => ?_
  cases k with
  | true => exact iteT ((q1 rfl σ M F1 H1 (bo.mono e1) (rs.mono e1) r1).imp fun _ _ q => q.mono e1)
  | false => exact iteF ((q2 rfl σ M F1 H1 (bo.mono e1) (rs.mono e1) r1).imp fun _ _ q => q.mono e1)

theorem rdA.imp {σ : L2.St} {H : Hp} {Q Q' : List V → Hp → Prop} (h : rdA X es σ H Q) (w : ∀ v H', Q v H' → Q' v H') : rdA X es σ H Q' :=
  ⟨fun pos pins s I => thn (h.o pos pins s I) fun _ _ ⟨v, H', I', r, q⟩ => ⟨v, H', I', r, w v H' q⟩⟩
variable {QL : List A → Mu → Prop}
theorem wA_nil (q : QL [] μ) : wA B X [] Γ μ QL := fun σ M F H bo rs r => rd_pa pa_nil ⟨[], F, μ, .refl _, r, .nil, q⟩
theorem wA_cons (h : wE B X e Γ μ fun x μ1 => wA B X es Γ μ1 fun xs μ2 => QL (x :: xs) μ2) (hs : starEach (e :: es) X.env = (false, eval e X.env) :: starEach es X.env := by rfl) : wA B X (e :: es) Γ μ QL := fun σ M F H bo rs r => rd_pa (pa_cons pe_rd pa_rd hs) (by
  refine (h σ M F H bo rs r).imp fun v H1 ⟨x, F1, μ1, e1, r1, p1, q1⟩ => ?_
  refine (q1 σ M F1 H1 (bo.mono e1) (rs.mono e1) r1).imp fun vs H2 ⟨xs, F2, μ2, e2, r2, p2, q2⟩ => ?_
  exact ⟨x :: xs, F2, μ2, e1.trans e2, r2, .cons (p1.mono e2) p2, q2⟩)
theorem wE_tup {k : Nat} (h : wA B X es Γ μ fun xs μ1 => xs.length ≤ sizeLine ∧ Q (.tup xs) μ1) : wE B X (.Tuple es k pos) Γ μ Q := wE_of (pe_tup pa_rd) fun σ M F H bo rs r => by
  refine (h σ M F H bo rs r).imp fun vs H1 ⟨xs, F1, μ1, e1, r1, p1, z, q1⟩ => ⟨by rw [p1.len]; exact z, fun p np => ?_⟩
  obtain ⟨ex, rl⟩ := r1.newF (o := .tup vs) np
  exact ⟨_, _, μ1, e1.trans ex, rl, rep_tup.mpr ⟨p, vs, rfl, .inl (.inl upd_same), p1.mono ex⟩, q1⟩
theorem wE_lst (h : wA B X es Γ μ fun xs μ1 => xs.length ≤ sizeLine ∧ ∀ p, μ1 p = none → Q (.loc p) (μ1.upd p (.lst xs))) : wE B X (.List es pos) Γ μ Q := wE_of (pe_lst pa_rd) fun σ M F H bo rs r => by
  refine (h σ M F H bo rs r).imp fun vs H1 ⟨xs, F1, μ1, e1, r1, p1, z, q1⟩ => ⟨by rw [p1.len]; exact z, fun p np => ?_⟩
  obtain ⟨nμ, rl⟩ := r1.new (m := .lst xs) (o := .lst vs) np ⟨vs, rfl, p1⟩
  exact ⟨_, _, _, e1, rl, rep_loc.mpr rfl, q1 p nμ⟩
theorem wE_lstF (h : wA B X es Γ μ fun xs μ1 => xs.length ≤ sizeLine ∧ Q (.lst xs) μ1) : wE B X (.List es pos) Γ μ Q := wE_of (pe_lst pa_rd) fun σ M F H bo rs r => by
  refine (h σ M F H bo rs r).imp fun vs H1 ⟨xs, F1, μ1, e1, r1, p1, z, q1⟩ => ⟨by rw [p1.len]; exact z, fun p np => ?_⟩
  obtain ⟨ex, rl⟩ := r1.newF (o := .lst vs) np
  exact ⟨_, _, μ1, e1.trans ex, rl, rep_lst.mpr ⟨p, vs, rfl, upd_same, p1.mono ex⟩, q1⟩

def rdIx (X : Cx) : R2 := fun x y H Q => Bx (∀ (value slice : Expr) (pins : List (Addr × Obj)) (s : Shared) (σ : L2.St) (v u : Value), Inv X pins σ H s → RelV x v → RelV y u → subscripted slice false v u = operate [v, u] (getItem v u) → wpAny (model X.prog X.w) X.A (subscriptTail value slice v u) (EP X pins σ Q) X.xe s)
theorem ixr_rd : IxR X (rdIx X) := fun value slice pins s σ H x y v u Q I r1 r2 h hs => h.o value slice pins s σ v u I r1 r2 hs
theorem rd_ixr {r : R2} (h : IxR X r) {x y : V} {H : Hp} {Q : VK} (q : r x y H Q) : rdIx X x y H Q := ⟨fun value slice pins s σ v u I r1 r2 hs => h value slice pins s σ H x y v u Q I r1 r2 q hs⟩
def wI (X : Cx) (x y : A) (μ : Mu) (Q : A → Mu → Prop) : Prop := ∀ M F H v w, Rel X.K μ M F H → Rep X.K F x v → Rep X.K F y w → rdIx X v w H (QE X.K M F Q)
theorem wE_ix (h : wE B X a Γ μ fun x μ1 => wE B X b Γ μ1 fun y μ2 => wI X x y μ2 Q) (hs : PlainIx b := by exact fun _ _ => rfl) : wE B X (.Subscript a b pos) Γ μ Q := wE_of (pe_ix ixr_rd pe_rd pe_rd hs) fun σ M F H bo rs r => by
  refine (h σ M F H bo rs r).imp fun v H1 ⟨x, F1, μ1, e1, r1, p1, q1⟩ => ?_
  refine (q1 σ M F1 H1 (bo.mono e1) (rs.mono e1) r1).imp fun w H2 ⟨y, F2, μ2, e2, r2, p2, q2⟩ => ?_
  exact ⟨fun value slice pins s σ' v' u' I hv hw hs => thn ((q2 M F2 H2 v w r2 (p1.mono e2) p2).o value slice pins s σ' v' u' I hv hw hs) fun _ _ ⟨z, H3, I3, r3, q3⟩ => ⟨z, H3, I3, r3, q3.mono (e1.trans e2)⟩⟩
theorem atI_rep {K : PySem.W.Frag} {F : Hp} {xs : List A} {vs : List V} {i : Int} {y : A} (h : RepL K F xs vs) (e : atI xs i = some y) : ∃ v, atI vs i = some v ∧ Rep K F y v := by
  unfold atI at e ⊢
  rw [h.len]
  cases q : ixN xs.length i with
  | none => simp [q] at e
  | some j => rw [q] at e; exact h.get e
theorem wI_tup {xs : List A} {i : Int} {y : A} (e : atI xs i = some y) (q : Q y μ) : wI X (.tup xs) (.int i) μ Q := fun M F H v w rl r1 r2 => rd_ixr ix_tup (by
  rw [rep_tup] at r1; rw [rep_int] at r2
  obtain ⟨p, vs, rfl, h1, h2⟩ := r1
  obtain ⟨z, e1, e2⟩ := atI_rep h2 e
  exact ⟨p, vs, i, z, rfl, r2, rl.sub.t h1, e1, .pure rl e2 q⟩)
theorem wI_lst {xs : List A} {i : Int} {y : A} (e : atI xs i = some y) (q : Q y μ) : wI X (.lst xs) (.int i) μ Q := fun M F H v w rl r1 r2 => rd_ixr ix_list (by
  rw [rep_lst] at r1; rw [rep_int] at r2
  obtain ⟨p, vs, rfl, h1, h2⟩ := r1
  obtain ⟨z, e1, e2⟩ := atI_rep h2 e
  exact ⟨p, vs, i, z, rfl, r2, .inl (.inl (rl.sub _ _ h1)), e1, .pure rl e2 q⟩)
theorem wI_fls {xs : List A} {i : Int} {y : A} (e : atI xs i = some y) (q : Q y μ) : wI X (.fls xs) (.int i) μ Q := fun M F H v w rl r1 r2 => rd_ixr ix_list (by
  rw [rep_fls] at r1; rw [rep_int] at r2
  obtain ⟨p, vs, rfl, h1, h2⟩ := r1
  obtain ⟨z, e1, e2⟩ := atI_rep h2 e
  exact ⟨p, vs, i, z, rfl, r2, rl.sub.l h1, e1, .pure rl e2 q⟩)
theorem wI_loc {p : Addr} {xs : List A} {i : Int} {y : A} (hp : μ p = some (.lst xs)) (e : atI xs i = some y) (q : Q y μ) : wI X (.loc p) (.int i) μ Q := fun M F H v w rl r1 r2 => rd_ixr ix_list (by
  rw [rep_loc] at r1; rw [rep_int] at r2
  obtain ⟨_, o, h1, vs, rfl, h2⟩ := rl.own p _ hp
  obtain ⟨z, e1, e2⟩ := atI_rep h2 e
  exact ⟨p, vs, i, z, r1, r2, .inl (.inl h1), e1, .pure rl e2 q⟩)
theorem wI_str {x : Str} {i : Int} {ch : Nat} (hz : x.length ≤ sizeLine) (e : atI x.cps.toList i = some ch) (q : Q (.str ⟨#[ch]⟩) μ) : wI X (.str x) (.int i) μ Q := fun M F H v w rl r1 r2 => rd_ixr ix_str (by
  rw [rep_str] at r1; rw [rep_int] at r2
  exact ⟨x, i, ch, r1, r2, hz, e, .pure rl (rep_str.mpr rfl) q⟩)

def wP (B : Bs) (X : Cx) (e : Option Expr) (Γ : G) (μ : Mu) (Q : Option Int → Mu → Prop) : Prop := match e with
  | none => Q none μ
  | some e => wE B X e Γ μ fun x μ1 => ∃ i, x = .int i ∧ Q (some i) μ1
def cutA (xs : List A) (lo hi : Option Int) : List A := (xs.drop (HT.sIx xs.length 0 lo)).take (HT.sIx xs.length xs.length hi - HT.sIx xs.length 0 lo)
theorem cut_rep {K : PySem.W.Frag} {F : Hp} {xs : List A} {vs : List V} {lo hi : Option Int} (h : RepL K F xs vs) : RepL K F (cutA xs lo hi) (cutV vs lo hi) := by
  unfold cutA cutV; rw [h.len]; exact (h.drop _).take _
def rdSl (X : Cx) : V → Option Int → Option Int → Hp → VK → Prop := fun x lo hi H Q => Bx (∀ (pins : List (Addr × Obj)) (s : Shared) (σ : L2.St) (v vl vu : Value) (sl : Addr), Inv X pins σ H s → RelV x v → s.heap.IsSliceOf sl vl vu .none → IsPart vl lo → IsPart vu hi →
    ∃ T id, typeLookup (.type T) "__getitem__" = pure (some (.builtin id)) ∧ s.TypeIs v T ∧ wpAny (model X.prog X.w) X.A (getItem v (.ref sl)) (EP X pins σ Q) X.xe s)
theorem slr_rd : SlR X (rdSl X) := fun pins s σ H x v vl vu lo hi sl Q I rx hs pl pu h => h.o pins s σ v vl vu sl I rx hs pl pu
theorem rd_slr {r : V → Option Int → Option Int → Hp → VK → Prop} (h : SlR X r) {x : V} {lo hi : Option Int} {H : Hp} {Q : VK} (q : r x lo hi H Q) : rdSl X x lo hi H Q := ⟨fun pins s σ v vl vu sl I rx hs pl pu => h pins s σ H x v vl vu lo hi sl Q I rx hs pl pu q⟩
def wSl (X : Cx) (x : A) (lo hi : Option Int) (μ : Mu) (Q : A → Mu → Prop) : Prop := ∀ M F H v, Rel X.K μ M F H → Rep X.K F x v → rdSl X v lo hi H (QE X.K M F Q)
def toP (X : Cx) (e : Option Expr) : TO := match e with
  | none => tNoPart
  | some e => tPart (rdE X e)
theorem po_rd : ∀ {e : Option Expr}, PO X e (toP X e)
  | none => po_none
  | some _ => po_some pe_rd
theorem toP_of {o : Option Expr} {Q0 : Option Int → Mu → Prop} (h : wP B X o Γ μ Q0) {σ : L2.St} {M F H : Hp} {R : Option Int → Hp → Prop} (bo : B.ok M F) (rs : RelS X.K Γ F σ) (r : Rel X.K μ M F H)
    (w : ∀ i F' μ' H', Ex F F' → Rel X.K μ' M F' H' → Q0 i μ' → R i H') : toP X o σ H R := by
  cases o with
  | none => exact w none F μ H (.refl _) r h
  | some e =>
    refine (show wE B X e Γ μ _ from h) σ M F H bo rs r |>.imp fun v H' ⟨x, F', μ', e1, r1, p1, i, ei, q1⟩ => ?_
    subst ei; rw [rep_int] at p1
    exact ⟨i, p1, w _ F' μ' H' e1 r1 q1⟩
theorem wE_slice {lo hi : Option Expr} {p2 : Pos} (h : wE B X a Γ μ fun x μ1 => wP B X lo Γ μ1 fun l μ2 => wP B X hi Γ μ2 fun u μ3 => wSl X x l u μ3 Q) : wE B X (.Subscript a (.Slice lo hi none p2) pos) Γ μ Q := wE_of (pe_slice slr_rd pe_rd po_rd po_rd) fun σ M F H bo rs r => by
  refine (h σ M F H bo rs r).imp fun v H1 ⟨x, F1, μ1, e1, r1, p1, q1⟩ => ?_
  refine toP_of q1 (bo.mono e1) (rs.mono e1) r1 fun l F2 μ2 H2 e2 r2 q2 => ?_
  refine toP_of q2 (bo.mono (e1.trans e2)) (rs.mono (e1.trans e2)) r2 fun u F3 μ3 H3 e3 r3 q3 => ?_
  refine ⟨fun pins s σ' v' vl vu sl I rx hs pl pu => ?_⟩
  obtain ⟨T, id, h1, h2, h3⟩ := (q3 M F3 H3 v r3 (p1.mono (e2.trans e3))).o pins s σ' v' vl vu sl I rx hs pl pu
  exact ⟨T, id, h1, h2, thn h3 fun _ _ ⟨z, H4, I4, r4, q4⟩ => ⟨z, H4, I4, r4, q4.mono ((e1.trans e2).trans e3)⟩⟩
theorem wSl_lst {xs : List A} {lo hi : Option Int} (q : ∀ p, μ p = none → Q (.loc p) (μ.upd p (.lst (cutA xs lo hi)))) : wSl X (.lst xs) lo hi μ Q := fun M F H v rl r1 => rd_slr sl_list (by
  rw [rep_lst] at r1
  obtain ⟨a, vs, rfl, h1, h2⟩ := r1
  refine ⟨a, vs, rfl, .inl (.inl (rl.sub _ _ h1)), fun p np => ?_⟩
  obtain ⟨nμ, rl'⟩ := rl.new (m := .lst (cutA xs lo hi)) np ⟨_, rfl, cut_rep h2⟩
  exact ⟨_, _, _, .refl _, rl', rep_loc.mpr rfl, q p nμ⟩)
theorem wSl_lstF {xs : List A} {lo hi : Option Int} (q : Q (.lst (cutA xs lo hi)) μ) : wSl X (.lst xs) lo hi μ Q := fun M F H v rl r1 => rd_slr sl_list (by
  rw [rep_lst] at r1
  obtain ⟨a, vs, rfl, h1, h2⟩ := r1
  refine ⟨a, vs, rfl, .inl (.inl (rl.sub _ _ h1)), fun p np => ?_⟩
  obtain ⟨ex, rl'⟩ := rl.newF (o := .lst (cutV vs lo hi)) np
  exact ⟨_, _, _, ex, rl', rep_lst.mpr ⟨p, _, rfl, upd_same, (cut_rep h2).mono ex⟩, q⟩)
theorem wSl_locF {p0 : Addr} {xs : List A} {lo hi : Option Int} (hp : μ p0 = some (.lst xs)) (q : Q (.lst (cutA xs lo hi)) μ) : wSl X (.loc p0) lo hi μ Q := fun M F H v rl r1 => rd_slr sl_list (by
  rw [rep_loc] at r1
  obtain ⟨_, o, h1, vs, rfl, h2⟩ := rl.own p0 _ hp
  refine ⟨p0, vs, r1, .inl (.inl h1), fun p np => ?_⟩
  obtain ⟨ex, rl'⟩ := rl.newF (o := .lst (cutV vs lo hi)) np
  exact ⟨_, _, _, ex, rl', rep_lst.mpr ⟨p, _, rfl, upd_same, (cut_rep h2).mono ex⟩, q⟩)
theorem wSl_str {x : Str} {lo hi : Option Int} (hz : x.length ≤ sizeLine) (q : Q (.str (cutS x lo hi)) μ) : wSl X (.str x) lo hi μ Q := fun M F H v rl r1 => rd_slr sl_str (by
  rw [rep_str] at r1
  exact ⟨x, r1, hz, .pure rl (rep_str.mpr rfl) q⟩)
end
end D

namespace D
open PySem PySem.Spec PyProof.Rows L2

section
variable {B : Bs} {X : Cx} {Γ : G} {μ : Mu} {Q : A → Mu → Prop} {a b c e : Expr} {es : List Expr} {pos : Pos}

theorem op_mulG : OpR X (binaryOp .Mult) (rI IntMulOk fun i j => .int (i * j)) := opI fun _ _ _ _ _ _ _ hc q => mul_int q hc
def DivOk (i j : Int) : Prop := j ≠ 0 ∧ Builtin.divisionGoesByPylong i j = false
theorem op_fdivG : OpR X (binaryOp .FloorDiv) (rI DivOk fun i j => .int (i.fdiv j)) := opI fun _ _ _ _ _ _ _ hc q => floordiv_int hc.1 q (.inl hc.2)
theorem wO_I {f : Value → Value → Sem Value} {C : Int → Int → Prop} {g : Int → Int → Int} (h : OpR X f (rI C fun i j => .int (g i j))) {i j : Int} (hc : C i j) (q : Q (.int (g i j)) μ) : wO X f (.int i) (.int j) μ Q :=
  wO_of h fun M F H v w rl r1 r2 => ⟨i, j, rep_int.mp r1, rep_int.mp r2, hc, .pure rl (rep_int.mpr rfl) q⟩
theorem wO_I0 {f : Value → Value → Sem Value} {g : Int → Int → Int} (h : OpR X f (rI0 fun i j => .int (g i j))) {i j : Int} (q : Q (.int (g i j)) μ) : wO X f (.int i) (.int j) μ Q :=
  wO_of h fun M F H v w rl r1 r2 => ⟨i, j, rep_int.mp r1, rep_int.mp r2, .pure rl (rep_int.mpr rfl) q⟩
theorem wO_B0 {f : Value → Value → Sem Value} {g : Int → Int → Bool} (h : OpR X f (rI0 fun i j => .bl (g i j))) {i j : Int} (q : Q (.bl (g i j)) μ) : wO X f (.int i) (.int j) μ Q :=
  wO_of h fun M F H v w rl r1 r2 => ⟨i, j, rep_int.mp r1, rep_int.mp r2, .pure rl (rep_bl.mpr rfl) q⟩
theorem wO_add {i j : Int} (q : Q (.int (i + j)) μ) : wO X (binaryOp .Add) (.int i) (.int j) μ Q := wO_I0 op_add q
theorem wO_sub {i j : Int} (q : Q (.int (i - j)) μ) : wO X (binaryOp .Sub) (.int i) (.int j) μ Q := wO_I0 op_sub q
theorem wO_mul {i j : Int} (hc : IntMulOk i j) (q : Q (.int (i * j)) μ) : wO X (binaryOp .Mult) (.int i) (.int j) μ Q := wO_I op_mulG hc q
theorem mulR {i j : Int} (h1 : -(2 ^ 64) < j) (h2 : j < 2 ^ 64) : IntMulOk i j := .of_right (intBits_le_64 h1 h2)
theorem mulL {i j : Int} (h1 : -(2 ^ 64) < i) (h2 : i < 2 ^ 64) : IntMulOk i j := .of_left (intBits_le_64 h1 h2)
theorem wO_fdiv {i j : Int} (h0 : 0 < j) (hc : Builtin.divisionGoesByPylong i j = false) (q : Q (.int (i / j)) μ) : wO X (binaryOp .FloorDiv) (.int i) (.int j) μ Q :=
  wO_I op_fdivG ⟨by omega, hc⟩ (by rw [Int.fdiv_eq_ediv_of_nonneg i (by omega)]; exact q)
theorem wO_fdivN {i j : Int} (h0 : j ≠ 0) (hc : Builtin.divisionGoesByPylong i j = false) (q : Q (.int (i.fdiv j)) μ) : wO X (binaryOp .FloorDiv) (.int i) (.int j) μ Q := wO_I op_fdivG ⟨h0, hc⟩ q
theorem divS {i j : Int} (h : j.natAbs < 1073741824) : Builtin.divisionGoesByPylong i j = false := PyProof.noPylong_small h
theorem wO_mod {i j : Int} (h0 : 0 < j) (q : Q (.int (i % j)) μ) : wO X (binaryOp .Mod) (.int i) (.int j) μ Q := wO_I (C := fun _ j => 0 < j) op_mod h0 q
theorem wO_pow {i j : Int} (hc : 0 ≤ j ∧ j ≤ 1000000 ∧ i.natAbs < 2 ^ 64) (q : Q (.int (i ^ j.toNat)) μ) : wO X (binaryOp .Pow) (.int i) (.int j) μ Q := wO_I op_pow hc q
theorem wO_lt {i j : Int} (q : Q (.bl (decide (i < j))) μ) : wO X (compareOp .Lt) (.int i) (.int j) μ Q := wO_B0 (g := fun i j => decide (i < j)) op_lt q
theorem wO_le {i j : Int} (q : Q (.bl (decide (i ≤ j))) μ) : wO X (compareOp .LtE) (.int i) (.int j) μ Q := wO_B0 (g := fun i j => decide (i ≤ j)) op_le q
theorem wO_gt {i j : Int} (q : Q (.bl (decide (j < i))) μ) : wO X (compareOp .Gt) (.int i) (.int j) μ Q := wO_B0 (g := fun i j => decide (j < i)) op_gt q
theorem wO_ge {i j : Int} (q : Q (.bl (decide (j ≤ i))) μ) : wO X (compareOp .GtE) (.int i) (.int j) μ Q := wO_B0 (g := fun i j => decide (j ≤ i)) op_ge q

mutual
def toD : A → PyData
  | .non => .none
  | .bl b => .bool b
  | .int i => .int i
  | .str x => .str x
  | .ty _ => .none
  | .loc _ => .none
  | .tup xs => .tuple (toDs xs)
  | .lst xs => .list (toDs xs)
  | .fls xs => .list (toDs xs)
def toDs : List A → List PyData
  | [] => []
  | x :: xs => toD x :: toDs xs
end
mutual
def isD : A → Bool
  | .non | .bl _ | .int _ => true
  | .str x => PyData.strOk x
  | .ty _ => false
  | .loc _ => false
  | .tup xs => isDs xs
  | .lst xs => isDs xs
  | .fls xs => isDs xs
def isDs : List A → Bool
  | [] => true
  | x :: xs => isD x && isDs xs
end
section
variable {K : PySem.W.Frag} {H : Hp}
mutual
theorem dp_of : ∀ {x : A} {v : V}, isD x = true → Rep K H x v → Dp K H v (toD x)
  | .non, _, _, h => by rw [rep_non] at h; subst h; exact .non
  | .bl b, _, _, h => by rw [rep_bl] at h; subst h; exact .bl b
  | .int i, _, _, h => by rw [rep_int] at h; subst h; exact .int i
  | .str x, _, _, h => by rw [rep_str] at h; subst h; exact .str x
  | .ty _, _, h, _ => by simp [isD] at h
  | .loc _, _, h, _ => by simp [isD] at h
  | .tup xs, _, hd, h => by
    rw [rep_tup] at h; obtain ⟨a, vs, rfl, h1, h2⟩ := h
    simp only [toD]
    exact .tup h1 (dps_of (by simpa [isD] using hd) h2)
  | .lst xs, _, hd, h => by
    rw [rep_lst] at h; obtain ⟨a, vs, rfl, h1, h2⟩ := h
    simp only [toD]
    exact .lst (.inl (.inl h1)) (dps_of (by simpa [isD] using hd) h2)
  | .fls xs, _, hd, h => by
    rw [rep_fls] at h; obtain ⟨a, vs, rfl, h1, h2⟩ := h
    simp only [toD]
    exact .lst h1 (dps_of (by simpa [isD] using hd) h2)
theorem dps_of : ∀ {xs : List A} {vs : List V}, isDs xs = true → RepL K H xs vs → DpAll K H vs (toDs xs)
  | [], _, _, h => by simp only [RepL] at h; subst h; exact .nil
  | x :: xs, _, hd, h => by
    simp only [RepL] at h
    obtain ⟨v, r, rfl, h1, h2⟩ := h
    simp only [isDs, Bool.and_eq_true] at hd
    simp only [toDs]
    exact .cons (dp_of hd.1 h1) (dps_of hd.2 h2)
end
end
mutual
theorem canLay_of : ∀ x : A, isD x = true → (toD x).canLay0 = true
  | .non, _ => by simp only [toD, PyData.canLay0]
  | .bl _, _ => by simp only [toD, PyData.canLay0]
  | .int _, _ => by simp only [toD, PyData.canLay0]
  | .str x, h => by simpa only [toD, PyData.canLay0, isD] using h
  | .ty _, h => by simp [isD] at h
  | .loc _, h => by simp [isD] at h
  | .tup xs, h => by simp only [toD, PyData.canLay0]; exact canLays_of xs (by simpa [isD] using h)
  | .lst xs, h => by simp only [toD, PyData.canLay0]; exact canLays_of xs (by simpa [isD] using h)
  | .fls xs, h => by simp only [toD, PyData.canLay0]; exact canLays_of xs (by simpa [isD] using h)
theorem canLays_of : ∀ xs : List A, isDs xs = true → PyData.canLayAll0 (toDs xs) = true
  | [], _ => by simp only [toDs, PyData.canLayAll0]
  | x :: xs, h => by
    simp only [isDs, Bool.and_eq_true] at h
    simp only [toDs, PyData.canLayAll0, canLay_of x h.1, canLays_of xs h.2, Bool.and_self]
end
theorem toDs_map {α : Type} (f : α → A) : ∀ l : List α, toDs (l.map f) = l.map fun a => toD (f a)
  | [] => rfl
  | a :: l => by simp only [List.map_cons, toDs, toDs_map f l]
theorem toDs_eq : ∀ l : List A, toDs l = l.map toD
  | [] => rfl
  | a :: l => by simp only [List.map_cons, toDs, toDs_eq l]
theorem isDs_map {α : Type} {f : α → A} (h : ∀ a, isD (f a) = true) : ∀ l : List α, isDs (l.map f) = true
  | [] => rfl
  | a :: l => by simp only [List.map_cons, isDs, h a, isDs_map h l, Bool.and_self]
theorem isDs_all {l : List A} (h : ∀ a ∈ l, isD a = true) : isDs l = true := by
  induction l with
  | nil => rfl
  | cons a l ih => simp only [isDs, h a List.mem_cons_self, ih fun b hb => h b (List.mem_cons_of_mem _ hb), Bool.and_self]
theorem isDs_mem {l : List A} (h : isDs l = true) : ∀ a ∈ l, isD a = true := by
  induction l with
  | nil => simp
  | cons a l ih =>
    simp only [isDs, Bool.and_eq_true] at h
    exact List.forall_mem_cons.mpr ⟨h.1, ih h.2⟩
mutual
def deep : A → Nat
  | .tup xs => deeps xs + 1
  | .lst xs => deeps xs + 1
  | .fls xs => deeps xs + 1
  | _ => 0
def deeps : List A → Nat
  | [] => 0
  | x :: xs => max (deep x) (deeps xs)
end
mutual
theorem depth_of : ∀ x : A, (toD x).depth ≤ deep x
  | .non => by simp [toD, PyData.depth]
  | .bl _ => by simp [toD, PyData.depth]
  | .int _ => by simp [toD, PyData.depth]
  | .str _ => by simp [toD, PyData.depth]
  | .ty _ => by simp [toD, PyData.depth]
  | .loc _ => by simp [toD, PyData.depth]
  | .tup xs => by simp only [toD, PyData.depth, deep]; have := depths_of xs; omega
  | .lst xs => by simp only [toD, PyData.depth, deep]; have := depths_of xs; omega
  | .fls xs => by simp only [toD, PyData.depth, deep]; have := depths_of xs; omega
theorem depths_of : ∀ xs : List A, PyData.depthAll (toDs xs) ≤ deeps xs
  | [] => by simp [toDs, PyData.depthAll]
  | x :: xs => by simp only [toDs, PyData.depthAll, deeps]; have := depth_of x; have := depths_of xs; omega
end
theorem deeps_le {l : List A} {n : Nat} (h : ∀ a ∈ l, deep a ≤ n) : deeps l ≤ n := by
  induction l with
  | nil => exact Nat.zero_le _
  | cons a l ih =>
    have h1 := h a List.mem_cons_self
    have h2 := ih fun b hb => h b (List.mem_cons_of_mem _ hb)
    simp only [deeps]; omega
def DatOk (x : A) : Prop := isD x = true ∧ deep x ≤ 60
theorem DatOk.shaped {x : A} (h : DatOk x) : SeqAt.shaped (toD x) = true := by
  unfold SeqAt.shaped
  rw [canLay_of x h.1]
  have := depth_of x
  have h2 := h.2
  simp only [Bool.true_and, decide_eq_true_eq]
  omega
theorem wO_eqD {x y : A} (hu : X.A.units + 64 < cLine) (hx : DatOk x) (hy : DatOk y) (q : Q (.bl (PyData.eqv (toD x) (toD y))) μ) : wO X (compareOp .Eq) x y μ Q :=
  wO_of (op_eqD hu) fun M F H v w rl r1 r2 => ⟨_, _, dp_of hx.1 (r1.mono rl.sub), dp_of hy.1 (r2.mono rl.sub), hx.shaped, hy.shaped, .pure rl (rep_bl.mpr rfl) q⟩
theorem wO_neD {x y : A} (hu : X.A.units + 64 < cLine) (hx : DatOk x) (hy : DatOk y) (q : Q (.bl (!PyData.eqv (toD x) (toD y))) μ) : wO X (compareOp .NotEq) x y μ Q :=
  wO_of (op_neD hu) fun M F H v w rl r1 r2 => ⟨_, _, dp_of hx.1 (r1.mono rl.sub), dp_of hy.1 (r2.mono rl.sub), hx.shaped, hy.shaped, .pure rl (rep_bl.mpr rfl) q⟩
theorem wO_eqI {i j : Int} (q : Q (.bl (decide (i = j))) μ) : wO X (compareOp .Eq) (.int i) (.int j) μ Q :=
  wO_of op_eq fun M F H v w rl r1 r2 => by
    rw [rep_int] at r1 r2; subst r1; subst r2
    exact ⟨rfl, .pure rl (rep_bl.mpr (by simp)) q⟩
theorem wO_neI {i j : Int} (q : Q (.bl (!decide (i = j))) μ) : wO X (compareOp .NotEq) (.int i) (.int j) μ Q :=
  wO_of op_ne fun M F H v w rl r1 r2 => by
    rw [rep_int] at r1 r2; subst r1; subst r2
    exact ⟨rfl, .pure rl (rep_bl.mpr (by simp)) q⟩
theorem wO_eqS {i j : Str} (q : Q (.bl (decide (i = j))) μ) : wO X (compareOp .Eq) (.str i) (.str j) μ Q :=
  wO_of op_eq fun M F H v w rl r1 r2 => by
    rw [rep_str] at r1 r2; subst r1; subst r2
    exact ⟨rfl, .pure rl (rep_bl.mpr (by simp)) q⟩
theorem wO_neS {i j : Str} (q : Q (.bl (!decide (i = j))) μ) : wO X (compareOp .NotEq) (.str i) (.str j) μ Q :=
  wO_of op_ne fun M F H v w rl r1 r2 => by
    rw [rep_str] at r1 r2; subst r1; subst r2
    exact ⟨rfl, .pure rl (rep_bl.mpr (by simp)) q⟩
def isNon : A → Bool
  | .non => true
  | _ => false
theorem isNon_rep {K : PySem.W.Frag} {F : Hp} {x : A} {v : V} (h : Rep K F x v) : decide (v = .non) = isNon x := by
  cases x with
  | non => rw [rep_non] at h; subst h; rfl
  | bl b => rw [rep_bl] at h; subst h; rfl
  | int i => rw [rep_int] at h; subst h; rfl
  | str i => rw [rep_str] at h; subst h; rfl
  | ty i => rw [rep_ty] at h; subst h; rfl
  | loc i => rw [rep_loc] at h; subst h; rfl
  | tup i => rw [rep_tup] at h; obtain ⟨_, _, rfl, _⟩ := h; rfl
  | lst i => rw [rep_lst] at h; obtain ⟨_, _, rfl, _⟩ := h; rfl
  | fls i => rw [rep_fls] at h; obtain ⟨_, _, rfl, _⟩ := h; rfl
theorem wO_isN {x : A} (q : Q (.bl (isNon x)) μ) : wO X (compareOp .Is) x .non μ Q :=
  wO_of op_isN fun M F H v w rl r1 r2 => ⟨rep_non.mp r2, .pure rl (rep_bl.mpr (by rw [isNon_rep r1])) q⟩
theorem wO_notN {x : A} (q : Q (.bl (!isNon x)) μ) : wO X (compareOp .IsNot) x .non μ Q :=
  wO_of op_notN fun M F H v w rl r1 r2 => ⟨rep_non.mp r2, .pure rl (rep_bl.mpr (by rw [isNon_rep r1])) q⟩
theorem wO_isB {i j : Bool} (q : Q (.bl (decide (i = j))) μ) : wO X (compareOp .Is) (.bl i) (.bl j) μ Q :=
  wO_of op_isBl fun M F H v w rl r1 r2 => ⟨i, j, rep_bl.mp r1, rep_bl.mp r2, .pure rl (rep_bl.mpr rfl) q⟩
theorem wO_notB {i j : Bool} (q : Q (.bl (!decide (i = j))) μ) : wO X (compareOp .IsNot) (.bl i) (.bl j) μ Q :=
  wO_of op_notBl fun M F H v w rl r1 r2 => ⟨i, j, rep_bl.mp r1, rep_bl.mp r2, .pure rl (rep_bl.mpr rfl) q⟩
theorem wO_addS {x y : Str} (hz : x.length + y.length ≤ sizeLine) (q : Q (.str (x ++ y)) μ) : wO X (binaryOp .Add) (.str x) (.str y) μ Q :=
  wO_of op_add_str fun M F H v w rl r1 r2 => ⟨x, y, rep_str.mp r1, rep_str.mp r2, hz, .pure rl (rep_str.mpr rfl) q⟩
theorem wO_catT {xs ys : List A} (hz : xs.length + ys.length ≤ sizeLine) (q : Q (.tup (xs ++ ys)) μ) : wO X (binaryOp .Add) (.tup xs) (.tup ys) μ Q :=
  wO_of op_catA fun M F H v w rl r1 r2 => by
    rw [rep_tup] at r1 r2
    obtain ⟨a, vs, rfl, h1, h2⟩ := r1
    obtain ⟨b, ws, rfl, g1, g2⟩ := r2
    refine ⟨a, b, vs, ws, rfl, rfl, rl.sub.t h1, rl.sub.t g1, by rw [h2.len, g2.len]; exact hz, fun e => ?_, fun _ e => ?_, fun _ _ p np => ?_⟩
    · have e1 : xs = [] := by have := h2.len; rw [e] at this; exact List.length_eq_zero_iff.mp this.symm
      subst e1
      exact .pure rl (rep_tup.mpr ⟨b, ws, rfl, g1, by simpa using g2⟩) q
    · have e1 : ys = [] := by have := g2.len; rw [e] at this; exact List.length_eq_zero_iff.mp this.symm
      subst e1
      exact .pure rl (rep_tup.mpr ⟨a, vs, rfl, h1, by simpa using h2⟩) q
    · obtain ⟨ex, rl'⟩ := rl.newF (o := .tup (vs ++ ws)) np
      exact ⟨_, _, μ, ex, rl', rep_tup.mpr ⟨p, _, rfl, .inl (.inl upd_same), (h2.append g2).mono ex⟩, q⟩
inductive IsL (μ : Mu) : A → List A → Prop
  | lst (xs) : IsL μ (.lst xs) xs
  | loc {p xs} (h : μ p = some (.lst xs)) : IsL μ (.loc p) xs
theorem IsL.rep {K : PySem.W.Frag} {M F H : Hp} {x : A} {xs : List A} {v : V} (h : IsL μ x xs) (rl : Rel K μ M F H) (r : Rep K F x v) : ∃ p vs, v = .ref p ∧ H p = some (.lst vs) ∧ RepL K F xs vs := by
  cases h with
  | lst => rw [rep_lst] at r; obtain ⟨a, vs, h1, h2, h3⟩ := r; exact ⟨a, vs, h1, rl.sub _ _ h2, h3⟩
  | loc h => rw [rep_loc] at r; obtain ⟨_, o, h1, vs, rfl, h2⟩ := rl.own _ _ h; exact ⟨_, vs, r, h1, h2⟩
theorem wO_cat {x y : A} {xs ys : List A} (hx : IsL μ x xs) (hy : IsL μ y ys) (hz : xs.length + ys.length ≤ sizeLine) (q : ∀ p, μ p = none → Q (.loc p) (μ.upd p (.lst (xs ++ ys)))) : wO X (binaryOp .Add) x y μ Q :=
  wO_of op_cat fun M F H v w rl r1 r2 => by
    obtain ⟨a, vs, e1, h1, h2⟩ := hx.rep rl r1
    obtain ⟨b, ws, e2, g1, g2⟩ := hy.rep rl r2
    refine ⟨a, b, vs, ws, e1, e2, h1, g1, by rw [h2.len, g2.len]; exact hz, fun p np => ?_⟩
    obtain ⟨nμ, rl'⟩ := rl.new (m := .lst (xs ++ ys)) np ⟨_, rfl, h2.append g2⟩
    exact ⟨_, _, _, .refl _, rl', rep_loc.mpr rfl, q p nμ⟩
theorem wO_catF {x y : A} {xs ys : List A} (hx : IsL μ x xs) (hy : IsL μ y ys) (hz : xs.length + ys.length ≤ sizeLine) (q : Q (.lst (xs ++ ys)) μ) : wO X (binaryOp .Add) x y μ Q :=
  wO_of op_cat fun M F H v w rl r1 r2 => by
    obtain ⟨a, vs, e1, h1, h2⟩ := hx.rep rl r1
    obtain ⟨b, ws, e2, g1, g2⟩ := hy.rep rl r2
    refine ⟨a, b, vs, ws, e1, e2, h1, g1, by rw [h2.len, g2.len]; exact hz, fun p np => ?_⟩
    obtain ⟨ex, rl'⟩ := rl.newF (o := .lst (vs ++ ws)) np
    exact ⟨_, _, _, ex, rl', rep_lst.mpr ⟨p, _, rfl, upd_same, (h2.append g2).mono ex⟩, q⟩
theorem rep_flat {K : PySem.W.Frag} {F : Hp} {xs : List A} {vs : List V} (h : RepL K F xs vs) : ∀ n : Nat, RepL K F (List.replicate n xs).flatten (List.replicate n vs).flatten
  | 0 => .nil
  | n + 1 => by rw [List.replicate_succ, List.replicate_succ, List.flatten_cons, List.flatten_cons]; exact h.append (rep_flat h n)
theorem wO_repF {x : A} {xs : List A} {k : Int} (hx : IsL μ x xs) (h1 : -(2 ^ 63) ≤ k) (h2 : k < 2 ^ 63) (hz : xs.length * k.toNat ≤ sizeLine) (q : Q (.lst (List.replicate k.toNat xs).flatten) μ) : wO X (binaryOp .Mult) x (.int k) μ Q :=
  wO_of op_rep fun M F H v w rl r1 r2 => by
    obtain ⟨a, vs, e1, g1, g2⟩ := hx.rep rl r1
    refine ⟨a, k, vs, e1, rep_int.mp r2, g1, h1, h2, by rw [g2.len]; exact hz, fun p np => ?_⟩
    obtain ⟨ex, rl'⟩ := rl.newF (o := .lst (List.replicate k.toNat vs).flatten) np
    exact ⟨_, _, _, ex, rl', rep_lst.mpr ⟨p, _, rfl, upd_same, (rep_flat g2 _).mono ex⟩, q⟩
theorem wSl_tup {xs : List A} {lo hi : Option Int} (q : Q (.tup (cutA xs lo hi)) μ) : wSl X (.tup xs) lo hi μ Q := fun M F H v rl r1 => rd_slr sl_tupA (by
  rw [rep_tup] at r1
  obtain ⟨a, vs, rfl, h1, h2⟩ := r1
  refine ⟨a, vs, rfl, rl.sub.t h1, fun e => ?_, fun _ p np => ?_⟩
  · refine .pure rl (rep_tup.mpr ⟨a, vs, rfl, h1, ?_⟩) q
    have e2 : cutA xs lo hi = xs := by
      unfold cutA
      rw [h2.len] at e
      rw [e.1, e.2]; simp
    rw [e2]; exact h2
  · obtain ⟨ex, rl'⟩ := rl.newF (o := .tup (cutV vs lo hi)) np
    exact ⟨_, _, _, ex, rl', rep_tup.mpr ⟨p, _, rfl, .inl (.inl upd_same), (cut_rep h2).mono ex⟩, q⟩)
def flatA : A → Bool
  | .non | .bl _ | .int _ | .str _ => true
  | .ty _ | .loc _ | .tup _ | .lst _ | .fls _ => false
def numB (b : Bool) : Int := if b then 1 else 0
def isNon0 : A → Bool
  | .non => true
  | _ => false
def eqA : A → A → Bool
  | .str x, .str y => x == y
  | .int i, .int j => i == j
  | .bl s, .bl t => s == t
  | .bl s, .int j => numB s == j
  | .int i, .bl t => i == numB t
  | .non, y => isNon0 y
  | _, _ => false
def inA (x : A) (xs : List A) : Bool := xs.any fun y => eqA y x
theorem flat_rep {K : PySem.W.Frag} {F : Hp} {x : A} {v : V} (h : Rep K F x v) (f : flatA x = true) : flatV v = true := by
  cases x <;> simp [flatA] at f <;> simp only [Rep] at h <;> subst h <;> rfl
theorem eq_rep {K : PySem.W.Frag} {F : Hp} {x y : A} {v w : V} (h : Rep K F x v) (g : Rep K F y w) (f : flatA x = true) (f' : flatA y = true) : eqV v w = eqA x y := by
  cases x <;> simp [flatA] at f <;> cases y <;> simp [flatA] at f' <;> simp only [Rep] at h g <;> subst h <;> subst g <;> rfl
theorem flats_rep {K : PySem.W.Frag} {F : Hp} : ∀ {xs : List A} {vs : List V}, RepL K F xs vs → xs.all flatA = true → vs.all flatV = true
  | [], _, h, _ => by simp only [RepL] at h; subst h; rfl
  | x :: xs, _, h, f => by
    simp only [RepL] at h; obtain ⟨v, r, rfl, h1, h2⟩ := h
    rw [List.all_cons, Bool.and_eq_true] at f ⊢
    exact ⟨flat_rep h1 f.1, flats_rep h2 f.2⟩
theorem in_rep {K : PySem.W.Frag} {F : Hp} {y : A} {w : V} (g : Rep K F y w) (f' : flatA y = true) : ∀ {xs : List A} {vs : List V}, RepL K F xs vs → xs.all flatA = true → inV w vs = inA y xs
  | [], _, h, _ => by simp only [RepL] at h; subst h; rfl
  | x :: xs, _, h, f => by
    simp only [RepL] at h; obtain ⟨v, r, rfl, h1, h2⟩ := h
    obtain ⟨f1, f2⟩ := Bool.and_eq_true_iff.mp (List.all_cons ▸ f)
    have ih := in_rep g f' h2 f2
    unfold inV inA at ih ⊢
    rw [List.any_cons, List.any_cons, eq_rep h1 g f1 f', ih]
inductive IsQ (μ : Mu) : A → List A → Prop
  | lst (xs) : IsQ μ (.lst xs) xs
  | fls (xs) : IsQ μ (.fls xs) xs
  | tup (xs) : IsQ μ (.tup xs) xs
  | loc {p xs} (h : μ p = some (.lst xs)) : IsQ μ (.loc p) xs
theorem IsQ.rep {K : PySem.W.Frag} {M F H : Hp} {x : A} {xs : List A} {v : V} (h : IsQ μ x xs) (rl : Rel K μ M F H) (r : Rep K F x v) : ∃ p vs, v = .ref p ∧ (SqL K H p vs ∨ SqT K H p vs) ∧ RepL K F xs vs := by
  cases h with
  | lst => rw [rep_lst] at r; obtain ⟨a, vs, h1, h2, h3⟩ := r; exact ⟨a, vs, h1, .inl (.inl (.inl (rl.sub _ _ h2))), h3⟩
  | fls => rw [rep_fls] at r; obtain ⟨a, vs, h1, h2, h3⟩ := r; exact ⟨a, vs, h1, .inl (rl.sub.l h2), h3⟩
  | tup => rw [rep_tup] at r; obtain ⟨a, vs, h1, h2, h3⟩ := r; exact ⟨a, vs, h1, .inr (rl.sub.t h2), h3⟩
  | loc h => rw [rep_loc] at r; obtain ⟨_, o, h1, vs, rfl, h2⟩ := rl.own _ _ h; exact ⟨_, vs, r, .inl (.inl (.inl h1)), h2⟩
theorem wO_in {x y : A} {xs : List A} (hy : IsQ μ y xs) (hx : flatA x = true) (hs : xs.all flatA = true) (q : Q (.bl (inA x xs)) μ) : wO X (compareOp .In) x y μ Q :=
  wO_of op_in_seq fun M F H v w rl r1 r2 => by
    obtain ⟨p, vs, e, h1, h2⟩ := hy.rep rl r2
    refine ⟨p, vs, e, h1, flat_rep r1 hx, flats_rep h2 hs, .pure rl (rep_bl.mpr ?_) q⟩
    rw [in_rep r1 hx h2 hs]; simp
theorem wO_notIn {x y : A} {xs : List A} (hy : IsQ μ y xs) (hx : flatA x = true) (hs : xs.all flatA = true) (q : Q (.bl (!inA x xs)) μ) : wO X (compareOp .NotIn) x y μ Q :=
  wO_of op_notIn_seq fun M F H v w rl r1 r2 => by
    obtain ⟨p, vs, e, h1, h2⟩ := hy.rep rl r2
    refine ⟨p, vs, e, h1, flat_rep r1 hx, flats_rep h2 hs, .pure rl (rep_bl.mpr ?_) q⟩
    rw [in_rep r1 hx h2 hs]; simp
theorem wO_inSign {ch : Nat} {z : Str} (q : Q (.bl (decide (ch ∈ z.cps.toList))) μ) : wO X (compareOp .In) (.str ⟨#[ch]⟩) (.str z) μ Q :=
  wO_of op_in_sign fun M F H v w rl r1 r2 => ⟨ch, z, rep_str.mp r1, rep_str.mp r2, .pure rl (rep_bl.mpr rfl) q⟩

theorem wC_of {f : Value} {r : List V → Hp → VK → Prop} {xs : List A} (h : CallR X f r) (q : ∀ M F H vs, Rel X.K μ M F H → RepL X.K F xs vs → r vs H (QE X.K M F Q)) : wC X f xs μ Q :=
  fun M F H vs rl r1 => ⟨fun pins s σ us I rv => h pins s σ H vs us _ I rv (q M F H vs rl r1)⟩
theorem callr_rd {f : Value} : CallR X f (rdC X f) := fun pins s σ H xs us Q I r h => h.o pins s σ us I r
theorem wE_callB {x : Str} {p : Pos} {id : String} (hm : X.mg x = none) (hv : bootBuiltins x = some (.builtin id)) (h : wA B X (e :: es) Γ μ fun xs μ1 => wC X (.builtin id) xs μ1 Q) (hg : Gl X x := by rfl) (hn : x ≠ "__name__" := by decide) (hdb : (x == ("__debug__" : Str)) = false := by decide)
    (he : starEach (e :: es) X.env = (false, eval e X.env) :: starEach es X.env := by rfl) (hpl : (backTo pos (starEach es X.env)).any (·.1) = false := by rfl) : wE B X (.Call (.Name x p) (e :: es) [] pos) Γ μ Q := wE_of (pe_callB callr_rd hg hm hv pa_rd hn hdb he hpl) fun σ M F H bo rs r => by
  refine (h σ M F H bo rs r).imp fun vs H1 ⟨xs, F1, μ1, e1, r1, p1, q1⟩ => ?_
  exact ⟨fun pins s σ' us I rv => thn ((q1 M F1 H1 vs r1 p1).o pins s σ' us I rv) fun _ _ ⟨z, H3, I3, r3, q3⟩ => ⟨z, H3, I3, r3, q3.mono e1⟩⟩
theorem wE_callTy {x : Str} {p : Pos} {T : String} (hm : X.mg x = none) (hv : bootBuiltins x = some (.type T)) (h : wA B X (e :: es) Γ μ fun xs μ1 => wC X (.type T) xs μ1 Q) (hg : Gl X x := by rfl) (hn : x ≠ "__name__" := by decide) (hdb : (x == ("__debug__" : Str)) = false := by decide)
    (he : starEach (e :: es) X.env = (false, eval e X.env) :: starEach es X.env := by rfl) (hpl : (backTo pos (starEach es X.env)).any (·.1) = false := by rfl) : wE B X (.Call (.Name x p) (e :: es) [] pos) Γ μ Q := wE_of (pe_callTy callr_rd hg hm hv pa_rd hn hdb he hpl) fun σ M F H bo rs r => by
  refine (h σ M F H bo rs r).imp fun vs H1 ⟨xs, F1, μ1, e1, r1, p1, q1⟩ => ?_
  exact ⟨fun pins s σ' us I rv => thn ((q1 M F1 H1 vs r1 p1).o pins s σ' us I rv) fun _ _ ⟨z, H3, I3, r3, q3⟩ => ⟨z, H3, I3, r3, q3.mono e1⟩⟩
theorem RepL.one {K : PySem.W.Frag} {F : Hp} {x : A} {vs : List V} (h : RepL K F [x] vs) : ∃ v, vs = [v] ∧ Rep K F x v := by
  simp only [RepL] at h; obtain ⟨v, r, rfl, h1, rfl⟩ := h; exact ⟨v, rfl, h1⟩
theorem RepL.two {K : PySem.W.Frag} {F : Hp} {x y : A} {vs : List V} (h : RepL K F [x, y] vs) : ∃ v w, vs = [v, w] ∧ Rep K F x v ∧ Rep K F y w := by
  simp only [RepL] at h; obtain ⟨v, r, rfl, h1, w, r', rfl, h2, rfl⟩ := h; exact ⟨v, w, rfl, h1, h2⟩
theorem wC_abs {i : Int} (q : Q (.int (if i < 0 then -i else i)) μ) : wC X (.builtin "abs") [.int i] μ Q := wC_of call_abs fun M F H vs rl r => by
  obtain ⟨v, rfl, h⟩ := r.one; rw [rep_int] at h; subst h
  exact ⟨i, rfl, .pure rl (rep_int.mpr rfl) q⟩
theorem wC_max2 {i j : Int} (hc : X.calm = true) (q : Q (.int (if j > i then j else i)) μ) : wC X (.builtin "max") [.int i, .int j] μ Q := wC_of (call_max2 hc) fun M F H vs rl r => by
  obtain ⟨v, w, rfl, h, h'⟩ := r.two; rw [rep_int] at h h'; subst h; subst h'
  exact ⟨i, j, rfl, .pure rl (rep_int.mpr rfl) q⟩
theorem wC_min2 {i j : Int} (hc : X.calm = true) (q : Q (.int (if j < i then j else i)) μ) : wC X (.builtin "min") [.int i, .int j] μ Q := wC_of (call_min2 hc) fun M F H vs rl r => by
  obtain ⟨v, w, rfl, h, h'⟩ := r.two; rw [rep_int] at h h'; subst h; subst h'
  exact ⟨i, j, rfl, .pure rl (rep_int.mpr rfl) q⟩
theorem wC_len {x : A} {xs : List A} (hx : IsQ μ x xs) (q : Q (.int xs.length) μ) : wC X (.builtin "len") [x] μ Q := wC_of call_len_seq fun M F H vs rl r => by
  obtain ⟨v, rfl, h⟩ := r.one
  obtain ⟨p, ws, e, h1, h2⟩ := hx.rep rl h
  exact ⟨p, ws, by rw [e], h1, .pure rl (rep_int.mpr (by rw [h2.len])) q⟩
theorem wC_lenS {x : Str} (hz : x.length ≤ sizeLine) (q : Q (.int x.length) μ) : wC X (.builtin "len") [.str x] μ Q := wC_of call_len_str fun M F H vs rl r => by
  obtain ⟨v, rfl, h⟩ := r.one; rw [rep_str] at h; subst h
  exact ⟨x, rfl, hz, .pure rl (rep_int.mpr rfl) q⟩
theorem wC_list {x : A} {xs : List A} (hx : IsQ μ x xs) (q : ∀ p, μ p = none → Q (.loc p) (μ.upd p (.lst xs))) : wC X (.type "list") [x] μ Q := wC_of call_list_of fun M F H vs rl r => by
  obtain ⟨v, rfl, h⟩ := r.one
  obtain ⟨p, ws, e, h1, h2⟩ := hx.rep rl h
  refine ⟨p, ws, by rw [e], h1, fun l nl => ?_⟩
  obtain ⟨nμ, rl'⟩ := rl.new (m := .lst xs) nl ⟨_, rfl, h2⟩
  exact ⟨_, _, _, .refl _, rl', rep_loc.mpr rfl, q l nμ⟩
theorem wC_listF {x : A} {xs : List A} (hx : IsQ μ x xs) (q : Q (.lst xs) μ) : wC X (.type "list") [x] μ Q := wC_of call_list_of fun M F H vs rl r => by
  obtain ⟨v, rfl, h⟩ := r.one
  obtain ⟨p, ws, e, h1, h2⟩ := hx.rep rl h
  refine ⟨p, ws, by rw [e], h1, fun l nl => ?_⟩
  obtain ⟨ex, rl'⟩ := rl.newF (o := .lst ws) nl
  exact ⟨_, _, _, ex, rl', rep_lst.mpr ⟨l, _, rfl, upd_same, h2.mono ex⟩, q⟩
theorem wC_tuple {x : A} {xs : List A} (hx : IsL μ x xs) (q : Q (.tup xs) μ) : wC X (.type "tuple") [x] μ Q := wC_of call_tuple_of fun M F H vs rl r => by
  obtain ⟨v, rfl, h⟩ := r.one
  obtain ⟨p, ws, e, h1, h2⟩ := hx.rep rl h
  refine ⟨p, ws, by rw [e], .inl ⟨.inl (.inl h1), fun l nl => ?_⟩⟩
  obtain ⟨ex, rl'⟩ := rl.newF (o := .tup ws) nl
  exact ⟨_, _, _, ex, rl', rep_tup.mpr ⟨l, _, rfl, .inl (.inl upd_same), h2.mono ex⟩, q⟩
theorem wC_tupleT {xs : List A} (q : Q (.tup xs) μ) : wC X (.type "tuple") [.tup xs] μ Q := wC_of call_tupleT fun M F H vs rl r => by
  obtain ⟨v, rfl, h⟩ := r.one
  have h0 := h
  rw [rep_tup] at h
  obtain ⟨p, ws, rfl, h1, h2⟩ := h
  exact ⟨p, ws, rfl, rl.sub.t h1, .pure rl h0 q⟩
theorem IsL.q {x : A} {xs : List A} (h : IsL μ x xs) : IsQ μ x xs := by
  cases h with
  | lst => exact .lst _
  | loc h => exact .loc h
theorem repL_int' {K : PySem.W.Frag} {F : Hp} {ns : List Int} {vs : List V} (h : RepL K F (ns.map A.int) vs) : vs = ns.map V.int := repL_ints h
theorem wC_min {x : A} {ns : List Int} (hc : X.calm = true) (hx : IsL μ x (ns.map A.int)) (hn : 0 < ns.length) (q : ∀ m, m ∈ ns → (∀ y, y ∈ ns → m ≤ y) → Q (.int m) μ) : wC X (.builtin "min") [x] μ Q := wC_of (cr_min hc) fun M F H vs rl r => by
  obtain ⟨v, rfl, h⟩ := r.one
  obtain ⟨p, ws, e, h1, h2⟩ := hx.rep rl h
  rw [repL_ints h2] at h1
  exact ⟨p, ns, by rw [e], .inl (.inl h1), hn, fun m h3 h4 => .pure rl (rep_int.mpr rfl) (q m h3 h4)⟩
theorem wC_max {x : A} {ns : List Int} (hc : X.calm = true) (hx : IsL μ x (ns.map A.int)) (hn : 0 < ns.length) (q : ∀ m, m ∈ ns → (∀ y, y ∈ ns → y ≤ m) → Q (.int m) μ) : wC X (.builtin "max") [x] μ Q := wC_of (cr_max hc) fun M F H vs rl r => by
  obtain ⟨v, rfl, h⟩ := r.one
  obtain ⟨p, ws, e, h1, h2⟩ := hx.rep rl h
  rw [repL_ints h2] at h1
  exact ⟨p, ns, by rw [e], .inl (.inl h1), hn, fun m h3 h4 => .pure rl (rep_int.mpr rfl) (q m h3 h4)⟩
theorem wC_sum {x : A} {ns : List Int} (hc : X.calm = true) (hx : IsL μ x (ns.map A.int)) (q : Q (.int ns.sum) μ) : wC X (.builtin "sum") [x] μ Q := wC_of (cr_sum hc) fun M F H vs rl r => by
  obtain ⟨v, rfl, h⟩ := r.one
  obtain ⟨p, ws, e, h1, h2⟩ := hx.rep rl h
  rw [repL_ints h2] at h1
  exact ⟨p, ns, by rw [e], .inl (.inl h1), .pure rl (rep_int.mpr rfl) q⟩
theorem wC_all {x : A} {ns : List Bool} (hc : X.calm = true) (hx : IsL μ x (ns.map A.bl)) (q : Q (.bl (ns.all id)) μ) : wC X (.builtin "all") [x] μ Q := wC_of (cr_all hc) fun M F H vs rl r => by
  obtain ⟨v, rfl, h⟩ := r.one
  obtain ⟨p, ws, e, h1, h2⟩ := hx.rep rl h
  rw [repL_bls h2] at h1
  exact ⟨p, ns, by rw [e], .inl (.inl h1), .pure rl (rep_bl.mpr rfl) q⟩
theorem wC_any {x : A} {ns : List Bool} (hc : X.calm = true) (hx : IsL μ x (ns.map A.bl)) (q : Q (.bl (ns.any id)) μ) : wC X (.builtin "any") [x] μ Q := wC_of (cr_any hc) fun M F H vs rl r => by
  obtain ⟨v, rfl, h⟩ := r.one
  obtain ⟨p, ws, e, h1, h2⟩ := hx.rep rl h
  rw [repL_bls h2] at h1
  exact ⟨p, ns, by rw [e], .inl (.inl h1), .pure rl (rep_bl.mpr rfl) q⟩
theorem wC_intI {i : Int} (q : Q (.int i) μ) : wC X (.type "int") [.int i] μ Q := wC_of call_int1 fun M F H vs rl r => by
  obtain ⟨v, rfl, h⟩ := r.one; rw [rep_int] at h; subst h
  exact .inl ⟨i, rfl, .pure rl (rep_int.mpr rfl) q⟩
theorem wC_intB {i : Bool} (q : Q (.int (if i then 1 else 0)) μ) : wC X (.type "int") [.bl i] μ Q := wC_of call_int1 fun M F H vs rl r => by
  obtain ⟨v, rfl, h⟩ := r.one; rw [rep_bl] at h; subst h
  exact .inr ⟨i, rfl, .pure rl (rep_int.mpr rfl) q⟩
theorem wC_boolI {i : Int} (q : Q (.bl (i != 0)) μ) : wC X (.type "bool") [.int i] μ Q := wC_of call_bool1 fun M F H vs rl r => by
  obtain ⟨v, rfl, h⟩ := r.one; rw [rep_int] at h; subst h
  exact .inl ⟨i, rfl, .pure rl (rep_bl.mpr rfl) q⟩
theorem wC_strI {i : Int} (hz : i.natAbs.log2 < 1920) (q : Q (.str (toString i)) μ) : wC X (.type "str") [.int i] μ Q := wC_of call_str_int fun M F H vs rl r => by
  obtain ⟨v, rfl, h⟩ := r.one; rw [rep_int] at h; subst h
  exact ⟨i, rfl, hz, .pure rl (rep_str.mpr rfl) q⟩
def tyN (μ : Mu) : A → Option String
  | .non => some "NoneType" | .bl _ => some "bool" | .int _ => some "int" | .str _ => some "str" | .tup _ => some "tuple" | .lst _ => some "list"
  | .loc p => (match μ p with | some (.lst _) => some "list" | some (.dic _) => some "dict" | _ => none)
  | _ => none
theorem tyX_of {K : PySem.W.Frag} {M F H : Hp} {x : A} {n : String} {v : V} (rl : Rel K μ M F H) (r : Rep K F x v) (h : tyN μ x = some n) : TyX K H v (.type n) := by
  cases x with
  | non => rw [rep_non] at r; subst r; cases h; exact .base .non
  | bl b => rw [rep_bl] at r; subst r; cases h; exact .base (.bl b)
  | int i => rw [rep_int] at r; subst r; cases h; exact .base (.int i)
  | str i => rw [rep_str] at r; subst r; cases h; exact .base (.str i)
  | ty i => cases h
  | fls i => cases h
  | tup i =>
    rw [rep_tup] at r; obtain ⟨a, vs, rfl, g1, g2⟩ := r; cases h
    rcases rl.sub.t g1 with (g | ⟨o, g⟩) | ⟨o, its, n, g, gc, _⟩
    · exact .base (.tup g)
    · exact .fTuple g
    · exact .kTuple g gc
  | lst i => rw [rep_lst] at r; obtain ⟨a, vs, rfl, g1, g2⟩ := r; cases h; exact .base (.lst (rl.sub _ _ g1))
  | loc p =>
    rw [rep_loc] at r; subst r
    simp only [tyN] at h
    split at h
    · rename_i xs e; cases h; obtain ⟨_, o, g1, vs, rfl, _⟩ := rl.own _ _ e; exact .base (.lst g1)
    · rename_i xs e; cases h; obtain ⟨_, o, g1, vs, rfl, _⟩ := rl.own _ _ e; exact .base (.dK g1)
    · cases h
theorem wC_isi {x : A} {n m : String} {k : Bool} (hx : tyN μ x = some n) (hk : kitB n m = some k) (q : Q (.bl k) μ) : wC X (.builtin "isinstance") [x, .ty m] μ Q := wC_of call_isi fun M F H vs rl r => by
  obtain ⟨v, w, rfl, h, h'⟩ := r.two
  rw [rep_ty] at h'; subst h'
  exact ⟨v, _, _, _, k, rfl, .ty m, tyX_of rl h hx, kit_ty hk, .pure rl (rep_bl.mpr rfl) q⟩
end
end D

namespace D
open PySem PySem.Spec PyProof.Rows L2

abbrev AC := List A → Mu → (A → Mu → Prop) → (Value → Option Addr → Mu → Prop) → Prop
def spOf (K : PySem.W.Frag) (c : AC) : Sp := fun vs H Q E => ∃ (xs : List A) (F M : Hp) (μ : Mu) (Q0 : A → Mu → Prop) (E0 : Value → Option Addr → Mu → Prop), RepL K F xs vs ∧ Rel K μ M F H ∧ c xs μ Q0 E0 ∧
  (∀ y μ' F' H' v, Q0 y μ' → Ex F F' → Rel K μ' M F' H' → Rep K F' y v → Q v H') ∧ (∀ cls d μ' F' H', E0 cls d μ' → Ex F F' → Rel K μ' M F' H' → E cls d H')

structure FnD (P : Program) (w : World) (K : PySem.W.Frag) (mg : Str → Option Value) (base : Heap) (CX : CXT) (k : Nat) (f : Addr) (fd : FuncData) (ps : List Str) (c : AC) : Prop where
  len : ∀ xs μ Q E, c xs μ Q E → xs.length = ps.length
  run : ∀ (A : Around) (outer : List Env) (s : Shared) (H : Hp) (args : Args) (us : List Value) (vs : List V) (Q : VK) (E : XK), Room k A → A.guards = some [] → Env0 P w K mg base A outer s H → BindsTo s fd args (ps.zip us) → Vals vs us →
    spOf K c vs H Q E → codeAny (model P w) A (.call (.ref f) args) (CR CX outer P w H s Q E) s
section
variable {P : Program} {w : World} {mg : Str → Option Value} {base : Heap} {K : PySem.W.Frag} {CX : CXT} {k : Nat} {f : Addr} {fd : FuncData} {ps : List Str} {c : AC}
theorem FnD.up {j : Nat} (F : FnD P w K mg base CX j f fd ps c) (h : j ≤ k) : FnD P w K mg base CX k f fd ps c := { len := F.len, run := fun A outer s H args us vs Q E hr => F.run A outer s H args us vs Q E (hr.mono h) }
theorem FnD.imp {c' : AC} (F : FnD P w K mg base CX k f fd ps c) (h : ∀ xs μ Q E, c' xs μ Q E → c xs μ Q E) : FnD P w K mg base CX k f fd ps c' :=
  { len := fun xs μ Q E q => F.len xs μ Q E (h xs μ Q E q)
    run := fun A outer s H args us vs Q E hr hg e0 hb hv ⟨xs, F1, M, μ, Q0, E0, h1, h2, h3, h4⟩ => F.run A outer s H args us vs Q E hr hg e0 hb hv ⟨xs, F1, M, μ, Q0, E0, h1, h2, h xs μ Q0 E0 h3, h4⟩ }
theorem spOf.len {vs : List V} {H : Hp} {Q : VK} {E : XK} (hl : ∀ xs μ Q E, c xs μ Q E → xs.length = ps.length) (h : spOf K c vs H Q E) : vs.length = ps.length := by
  obtain ⟨xs, F, M, μ, Q0, E0, h1, _, h3, _⟩ := h
  rw [h1.len]; exact hl _ _ _ _ h3
end

structure Ar (X : Cx) (k : Nat) : Prop where
  room : Room k X.A
  show0 : X.A.guards = some []
theorem Ar.mono {X : Cx} {j k : Nat} (h : Ar X k) (hj : j ≤ k) : Ar X j := ⟨h.room.mono hj, h.show0⟩
theorem Ar.u64 {X : Cx} {k : Nat} (h : Ar X k) : X.A.units + 64 < cLine := h.room.units
theorem Ar.u1 {X : Cx} {k : Nat} (h : Ar X k) : X.A.units + 1 < cLine := hu_of h.room

section
variable {B : Bs} {X : Cx} {CX : CXT} {k : Nat} {f : Addr} {fd : FuncData} {ps : List Str} {c : AC} {Γ : G} {μ : Mu} {Q : A → Mu → Prop} {e : Expr} {es : List Expr} {pos p : Pos} {x : Str} {E : XK}
theorem runD {pins : List (Addr × Obj)} {σ : L2.St} {H : Hp} {s : Shared} {R : VK} {us ds : List Value} {vs dvs : List V} (F : FnD X.prog X.w X.K X.mg X.base CX k f fd ps c) (ar : Ar X k) (bi : Binds X.K fd ps ds) (dv : Vals dvs ds) (pa : Passes CX X E)
    (I : Inv X pins σ H s) (rv : Vals vs us) (sp : spOf X.K c (vs ++ dvs) H R E) : wpAny (model X.prog X.w) X.A (call (.ref f) us) (EP X pins σ R) X.xe s := by
  have all := rv.append dv
  have many : (us ++ ds).length = ps.length := all.length.symm.trans (spOf.len F.len sp)
  have go := F.run X.A X.stack s H ⟨us, []⟩ (us ++ ds) (vs ++ dvs) R E ar.room ar.show0 I.env0 (bi s us I.kIn many) all sp
  refine wpAny_call (codeAny_mono go fun res s2 end2 => ?_)
  match res, end2 with
  | .error e2, end2 => exact pa pins σ H s e2 s2 I end2
  | .ok (.ret u), end2 => exact I.after end2
  | .ok .next, end2 => exact end2.elim
  | .ok .brk, end2 => exact end2.elim
  | .ok .cont, end2 => exact end2.elim
structure At (X : Cx) (x : Str) (f : Addr) (fd : FuncData) (ps : List Str) (ds : List Value) : Prop where
  mg : X.mg x = some (.ref f)
  kp : PySem.W.keepIn X.K (.ref f) = true
  bi : Binds X.K fd ps ds
theorem wE_callX {ds : List Value} {dvs : List V} {das : List A} {E0 : Value → Option Addr → Mu → Prop} (F : FnD X.prog X.w X.K X.mg X.base CX k f fd ps c) (at0 : At X x f fd ps ds) (ar : Ar X k) (dv : Vals dvs ds) (da : ∀ F, RepL X.K F das dvs)
    (pa : ∀ M F, Passes CX X (fun cls d H' => ∃ F' μ', Ex F F' ∧ Rel X.K μ' M F' H' ∧ E0 cls d μ'))
    (h : wA B X (e :: es) Γ μ fun xs μ1 => c (xs ++ das) μ1 Q E0) (hg : Gl X x := by rfl) (hdb : (x == ("__debug__" : Str)) = false := by decide)
    (he : starEach (e :: es) X.env = (false, eval e X.env) :: starEach es X.env := by rfl) (hpl : (backTo pos (starEach es X.env)).any (·.1) = false := by rfl) : wE B X (.Call (.Name x p) (e :: es) [] pos) Γ μ Q := by
  intro σ M F0 H bo rs rl
  refine ⟨fun pins s I => ?_⟩
  refine wpAny_Call_Name_kw (ld_glob I hg at0.mg ?_ hdb)
  refine PySem.W.callWith_K (h₀ := X.base) I.ok.mod.kin at0.kp (thn ((h σ M F0 H bo rs rl).o pos pins s I) fun us s1 got => ?_) he hpl
  obtain ⟨vs, H1, I1, rv, xs, F1, μ1, ex, rl1, rp, hc⟩ := got
  refine ⟨I1.kIn, runD F ar at0.bi dv (pa M F0) I1 rv ⟨xs ++ das, F1, M, μ1, Q, E0, rp.append (da F1), rl1, hc, fun y μ' F' H' v q e1 r1 p1 => ?_, fun cls d μ' F' H' q e1 r1 => ?_⟩⟩
  · exact ⟨y, F', μ', ex.trans e1, r1, p1, q⟩
  · exact ⟨F', μ', ex.trans e1, r1, q⟩
theorem wE_call (F : FnD X.prog X.w X.K X.mg X.base CX0 k f fd ps c) (at0 : At X x f fd ps []) (ar : Ar X k) (h : wA B X (e :: es) Γ μ fun xs μ1 => c xs μ1 Q fun _ _ _ => False) (hg : Gl X x := by rfl) (hdb : (x == ("__debug__" : Str)) = false := by decide)
    (he : starEach (e :: es) X.env = (false, eval e X.env) :: starEach es X.env := by rfl) (hpl : (backTo pos (starEach es X.env)).any (·.1) = false := by rfl) : wE B X (.Call (.Name x p) (e :: es) [] pos) Γ μ Q :=
  wE_callX (das := []) (dvs := []) F at0 ar .nil (fun _ => .nil) (fun _ _ _ _ _ _ _ _ _ z => z.elim) (by simpa only [List.append_nil] using h) hg hdb he hpl
theorem wE_callD {ds : List Value} {dvs : List V} (das : List A) (F : FnD X.prog X.w X.K X.mg X.base CX0 k f fd ps c) (at0 : At X x f fd ps ds) (ar : Ar X k) (dv : Vals dvs ds) (da : ∀ F, RepL X.K F das dvs) (h : wA B X (e :: es) Γ μ fun xs μ1 => c (xs ++ das) μ1 Q fun _ _ _ => False) (hg : Gl X x := by rfl) (hdb : (x == ("__debug__" : Str)) = false := by decide)
    (he : starEach (e :: es) X.env = (false, eval e X.env) :: starEach es X.env := by rfl) (hpl : (backTo pos (starEach es X.env)).any (·.1) = false := by rfl) : wE B X (.Call (.Name x p) (e :: es) [] pos) Γ μ Q :=
  wE_callX F at0 ar dv da (fun _ _ _ _ _ _ _ _ _ z => z.elim) h hg hdb he hpl
theorem wE_call0 (F : FnD X.prog X.w X.K X.mg X.base CX0 k f fd ps c) (at0 : At X x f fd ps []) (ar : Ar X k) (h : c [] μ Q fun _ _ _ => False) (hg : Gl X x := by rfl) (hdb : (x == ("__debug__" : Str)) = false := by decide) : wE B X (.Call (.Name x p) [] [] pos) Γ μ Q := by
  intro σ M F0 H bo rs rl
  refine ⟨fun pins s I => ?_⟩
  refine wpAny_Call_Name_kw (ld_glob I hg at0.mg ?_ hdb)
  refine PySem.W.callWith_K0 I.kIn at0.kp (runD (us := []) (vs := []) (dvs := []) (E := fun _ _ _ => False) F ar at0.bi .nil (fun _ _ _ _ _ _ _ z => z.elim) I .nil ⟨[], F0, M, μ, Q, _, .nil, rl, h, fun y μ' F' H' v q e1 r1 p1 => ?_, fun cls d μ' F' H' q e1 r1 => q⟩)
  exact ⟨y, F', μ', e1, r1, p1, q⟩
end

def startA (N : List Str) (xs : List A) : G := xs.map some ++ List.replicate (N.length - xs.length) none
theorem relS_start {K : PySem.W.Frag} {F : Hp} {xs : List A} {vs : List V} (N : List Str) (h : RepL K F xs vs) : RelS K (startA N xs) F (L2.start N vs) := by
  unfold startA L2.start
  have hl := h.len
  refine ⟨by simp [hl], fun i x q => ?_⟩
  by_cases hi : i < xs.length
  · rw [List.getElem?_append_left (by simpa using hi), List.getElem?_map] at q
    cases e : xs[i]? with
    | none => rw [e] at q; cases q
    | some y =>
      rw [e] at q; cases q
      obtain ⟨v, h1, h2⟩ := h.get e
      refine ⟨v, ?_, h2⟩
      rw [List.getElem?_append_left (by rw [List.length_map, hl]; exact hi), List.getElem?_map, h1]; rfl
  · rw [List.getElem?_append_right (by simpa using hi), List.getElem?_replicate] at q
    split at q <;> cases q

section
variable {P : Program} {w : World} {mg : Str → Option Value} {base : Heap} {K : PySem.W.Frag}
abbrev cx0 (P : Program) (w : World) (K : PySem.W.Frag) (mg : Str → Option Value) (base : Heap) (N : List Str) (qual : Str) (sc : Scope) (f : Addr) (cdv : Value) (A : Around) (outer : List Env) (s : Shared) (H : Hp) (E : XK) : Cx := (cxOf CX0 P w K mg base N qual sc f cdv A outer s H E).nox
theorem FnD.body {CX : CXT} {k : Nat} {f : Addr} {name qual : Str} {params : Arguments} {body : List Stmt} {scope : Scope} {dV kV doc pm cdv ct oc : Value} {an od : Option Addr} {osl : Array (Option Value)} {N ps : List Str} {c : AC}
    (lk : K.lookup f = some ⟨oc, od, .func (PySem.W.fnOf name qual params body scope dV kV doc pm an cdv ct), osl⟩) (hcd : PySem.W.codeIn K cdv qual = true) (S : FnScope N ps scope) (len : ∀ xs μ Q E, c xs μ Q E → xs.length = ps.length)
    (go : ∀ (A : Around) (outer : List Env) (s : Shared) (H : Hp) (vs : List V) (Q : VK) (E : XK), Room k (A.deeper (envOfC qual scope s.heap.objs.size f cdv)) → A.guards = some [] → spOf K c vs H Q E →
      rdSs (cxOf CX P w K mg base N qual scope f cdv A outer s H E) body { nx := fun _ H' => Q .non H', rt := Q } (L2.start N vs) H) : FnD P w K mg base CX (k + 1) f (PySem.W.fnOf name qual params body scope dV kV doc pm an cdv ct) ps c := by
  refine { len := len, run := fun A outer s H args us vs Q E room sh e0 bound rv sp => ?_ }
  have many : vs.length = ps.length := spOf.len len sp
  have inK : K.In s.heap := e0.mod.kin.keeps fun b o z => (e0.bs b o z).1
  have noLim : s.heap.NoLimit := e0.mod.nolimit.keeps fun b o z => (e0.bs b o z).1
  have kinds : ∀ y ∈ ps.zip us, scope.names.lookup y.1 = some .local ∨ (scope.names.lookup y.1 = some .cell ∧ ((cellsFrom (s.heap.objs.size + 1) scope.names []).lookup y.1).isSome = true) := by
    intro y hy
    obtain ⟨n, v⟩ := y
    have hn := S.par n (List.of_mem_zip hy).1
    exact hn.elim .inl fun z => .inr ⟨z, PySem.W.cellsFrom_some _ _ _ (.inl z)⟩
  refine codeAny_call_function room.depth (inK _ _ lk) rfl S.co S.gen rfl (PySem.W.codeRec_of inK hcd) (bound _ _ _ _ ?_)
  refine wpAny_newFunctionEnv_cells S.kind kinds fun env he s1 new => ?_
  subst he
  refine ⟨noLim.keeps new.toInCall.keep, codeAny_func ?_⟩
  have I := inv_start (CX := CX) (P := P) (w := w) (mg := mg) (base := base) (N := N) (outer := outer) (E := E) S room.hd e0 many rv new
  refine wpAny_mono ((go A outer s H vs Q E (room.deeper _) sh sp).o [] s1 I) (fun fl s2 q => ?_) fun e2 s2 q => q
  have fin : ∀ {σ2 : L2.St} {H2 : Hp} {v : V} {u : Value}, Inv (cxOf CX P w K mg base N qual scope f cdv A outer s H E) [] σ2 H2 s2 → RelV v u → Q v H2 → CE outer P w H s Q u s2 :=
    fun {σ2 H2 v u} J r q => ⟨v, H2, J.os, J.bare, J.base, J.hok, r, q⟩
  match fl, q with
  | .ret u, ⟨v, σ2, H2, J, r, q⟩ => exact fin J r q
  | .next, ⟨σ2, H2, J, q⟩ => exact fin (v := V.non) (u := Value.none) J rfl q
  | .brk, ⟨_, _, _, q⟩ => exact q.elim
  | .cont, ⟨_, _, _, q⟩ => exact q.elim
theorem rdSs_nox {X : Cx} {st : List Stmt} {D : Ends} {σ : L2.St} {H : Hp} (h : rdSs X.nox st D σ H) : rdSs X st D σ H := rd_pss (PSs.nox pss_rd) h
theorem fnD {x qual : Str} {st : Stmt} {f : Addr} {fd : FuncData} {N ps : List Str} {k : Nat} {c : AC} (F : Fun K x qual st f fd) (S : FnScope N ps (defScope st)) (len : ∀ xs μ Q E, c xs μ Q E → xs.length = ps.length)
    (go : ∀ {B : Bs} (cdv : Value) (A : Around) (outer : List Env) (s : Shared) (H : Hp) (E : XK) (xs : List D.A) (μ : Mu) (Q : D.A → Mu → Prop) (E0 : Value → Option Addr → Mu → Prop), Ar (cx0 P w K mg base N qual (defScope st) f cdv A outer s H E) k → c xs μ Q E0 →
      wSs B (cx0 P w K mg base N qual (defScope st) f cdv A outer s H E) (defBody st) (startA N xs) μ { nx := fun _ μ' => Q .non μ', rt := Q }) : FnD P w K mg base CX0 (k + 1) f fd ps c := by
  obtain ⟨oc, od, kV, doc, pm, an, cdv, ct, osl, rfl, lk, hcd⟩ := F.ex
  refine FnD.body lk hcd S len fun A outer s H vs Q E room sh sp => rdSs_nox ?_
  obtain ⟨xs, F0, M, μ, Q0, E0, rp, rl, hc, hq, he⟩ := sp
  refine (go cdv A outer s H E xs μ Q0 E0 ⟨room, sh⟩ hc (L2.start N vs) M F0 H (Bs.ok.own M F0) (relS_start N rp) rl).imp (fun σ2 H2 q => ?_) (fun v H2 q => ?_) (fun σ2 H2 q => ?_) (fun σ2 H2 q => ?_)
  · obtain ⟨Γ', F', μ', ex, _, rl', q⟩ := q
    exact hq .non μ' F' H2 .non q ex rl' (rep_non.mpr rfl)
  · obtain ⟨y, F', μ', ex, rl', rp', q⟩ := q
    exact hq y μ' F' H2 v q ex rl' rp'
  · obtain ⟨_, _, _, _, _, _, q⟩ := q; exact q
  · obtain ⟨_, _, _, _, _, _, q⟩ := q; exact q
end

theorem law_end {P : Program} {w : World} {K : PySem.W.Frag} {mg mb : Str → Option Value} {CX : CXT} {k : Nat} {fa a : Addr} {fd : FuncData} {x : Str} {c : AC} {s1 : Shared} {vs : List Value} {ns : List Int}
    (inK : K.In s1.heap) (gl : s1.heap.Ns mainGlobals mg) (bl : s1.heap.Ns builtinsNs mb) (bl2 : ∀ x : Str, x ≠ "__name__" → mb x = bootBuiltins x) (lim : s1.heap.NoLimit) (gens : s1.gens = #[])
    (obj : s1.heap.get? a = some { cls := .type "list", data := .seq vs.toArray }) (hints : IntsAre vs ns) (len : ns.length ≤ sizeLine) (room : Room k callerA)
    (F : ∀ base : Heap, K.In base → base.Ns mainGlobals mg → FnD P w K mg base CX k fa fd [x] c) (bind : ∀ (s : Shared) (u : Value), BindsTo s fd ⟨[u], []⟩ [(x, u)])
    (hc : c [.fls (ns.map A.int)] (fun _ => none) (fun y _ => y = .bl true) fun _ _ _ => False) (hCX : ∀ H e s', CX [] H s1 (fun _ _ _ => False) e s' → False) :
    codeAny (model P w) callerA (.call (.ref fa) ⟨[.ref a], []⟩) (fun r s' => r = .ok (.ret (.bool true)) ∧ OldK s1.heap s'.heap ∧ s'.os = s1.os ∧ AllBare s'.gens) s1 := by
  have rv := vals_ints hints
  have many := hints.length
  have main : ∀ H : Hp, Only H → SqL K H a (ns.map V.int) → HOk P w H s1.heap → (∀ b, H b ≠ none → b = a) → (H a ≠ none → K.lookup a = none) →
      codeAny (model P w) callerA (.call (.ref fa) ⟨[.ref a], []⟩) (fun r s' => r = .ok (.ret (.bool true)) ∧ OldK s1.heap s'.heap ∧ s'.os = s1.os ∧ AllBare s'.gens) s1 := by
    intro H only sq hok isA notK
    have off : ∀ {b : Addr} {o : Obj} {es : Array DictEntry} {ep : Nat}, s1.heap.get? b = some o → o.data = .dict es ep → H b = none := by
      intro b o es ep e d
      match q : H b with
      | none => rfl
      | some u =>
        obtain rfl : b = a := isA b (by rw [q]; exact fun z => nomatch z)
        rw [obj] at e
        cases e
        exact nomatch d
    have ns' : ∀ {b : Addr} {m : Str → Option Value}, s1.heap.Ns b m → (hidT s1.heap H).Ns b m := by
      intro b m h
      obtain ⟨o, es, ep, e, d, r⟩ := h
      exact ⟨o, es, ep, hidT_get e (off e d), d, r⟩
    have inKb : K.In (hidT s1.heap H) := by
      intro b o e
      refine hidT_get (inK b o e) ?_
      match q : H b with
      | none => rfl
      | some u =>
        obtain rfl : b = a := isA b (by rw [q]; exact fun z => nomatch z)
        rw [notK (by rw [q]; exact fun z => nomatch z)] at e
        cases e
    obtain ⟨mc, l1, l2⟩ := lim
    have e0 : Env0 P w K mg (hidT s1.heap H) callerA [] s1 H :=
      { frames := rfl, mod := ⟨inKb, ns' gl, ⟨mb, ns' bl, bl2⟩, ⟨mc, ns' l1, l2⟩⟩, bs := fun b o e => of_hidT e, bsz := Nat.le_of_eq (hidT_size _ _), funs := trivial, frf := fun b hb => (List.not_mem_nil hb).elim, hok := hok, bare := .of_eq gens }
    have rl : Rel K (fun _ => none) (fun _ => none) H H := ⟨.refl _, fun _ _ z => (nomatch z), fun _ _ z => (nomatch z)⟩
    have sp : spOf K c [.ref a] H (fun v _ => v = .bl true) (fun _ _ _ => False) :=
      ⟨[.fls (ns.map A.int)], H, fun _ => none, fun _ => none, _, _, .cons (rep_fls.mpr ⟨a, _, rfl, sq, .map (fun i => rep_int.mpr rfl) ns⟩) .nil, rl, hc, fun y μ' F' H' v q _ _ r => by rw [q, rep_bl] at r; exact r, fun _ _ _ _ _ z _ _ => z⟩
    refine codeAny_mono ((F _ inKb (ns' gl)).run callerA [] s1 H ⟨[.ref a], []⟩ [.ref a] [.ref a] _ _ room rfl e0 (bind s1 (.ref a)) (.cons rfl .nil) sp) fun r s2 h => ?_
    match r, h with
    | .error e, h => exact (hCX H e s2 h).elim
    | .ok .next, h => exact h.elim
    | .ok .brk, h => exact h.elim
    | .ok .cont, h => exact h.elim
    | .ok (.ret u), ⟨v, H2, os, bare, un, hok2, rv2, q⟩ =>
      have q2 : v = .bl true := q
      subst q2
      obtain rfl : u = Value.bool true := rv2
      suffices keep : ∀ b o, s1.heap.get? b = some o → s2.heap.get? b = some o from ⟨rfl, OldK.of_keep keep, os, bare⟩
      intro b o e
      match q3 : H b with
      | none => exact un.keep b o e q3 List.not_mem_nil List.not_mem_nil
      | some u3 =>
        rcases only b with z | ⟨ob, xs, z⟩
        · rw [z] at q3; cases q3
        · obtain ⟨g1, _⟩ := hok b _ z
          obtain ⟨g2, _⟩ := hok2 b _ (un.frzs b ob _ z)
          rw [g1] at e; cases e
          exact g2
  match hk : K.lookup a with
  | some o =>
    have e := inK a o hk
    rw [obj] at e
    cases e
    exact main (fun _ => none) (fun _ => .inl rfl) (.inr ⟨_, vs.toArray, _, hk, rfl, rfl, rfl, by rw [List.size_toArray, many]; exact len, by simpa using rv⟩) (fun _ _ z => nomatch z) (fun _ z => absurd rfl z) fun z => absurd rfl z
  | none =>
    refine main (upd (fun _ => none) a (.frz { cls := .type "list", data := .seq vs.toArray } (.lst (ns.map V.int)))) (fun b => ?_) (.inl (.inr ⟨_, upd_same⟩)) (fun b u z => ?_) (fun b z => ?_) fun _ => hk
    · by_cases hb : b = a
      · subst hb; exact .inr ⟨_, _, upd_same⟩
      · exact .inl (upd_ne hb)
    · by_cases hb : b = a
      · subst hb
        rw [upd_same] at z; cases z
        exact ⟨obj, by rw [List.length_map]; exact len, vs, _, rv, obj⟩
      · rw [upd_ne hb] at z; cases z
    · exact Classical.byContradiction fun hb => z (upd_ne hb)
theorem walk_end {l : PySem.W.OpenLaw} {k : Nat} {q : Program} {loose : List Str} {XP : (Str → Option Value) → Heap → Prop} {YP : World → Heap → Prop} {d : DefRec} {K : Params → PySem.W.Frag} {c : World → AC} {x : Str}
    (hn : l.most = some 63) (hdf : d.params.defaults = []) (room : Room k callerA) (hY : ∀ (w : World) (h : Heap), YP w h → (K w.params).In h)
    (F : ∀ (w : World) (mg : Str → Option Value) (fa : Addr) (g : Heap), (K w.params).In g → g.Ns mainGlobals mg →
      mg d.name = some (.ref fa) → ∃ fd : FuncData, (∀ (s : Shared) (u : Value), BindsTo s fd ⟨[u], []⟩ [(x, u)]) ∧ ∀ base : Heap, (K w.params).In base → base.Ns mainGlobals mg → FnD l.prog w (K w.params) mg base CX0 k fa fd [x] (c w))
    (hc : ∀ (w : World) (ns : List Int), ns.length ≤ 63 → c w [.fls (ns.map A.int)] (fun _ => none) (fun y _ => y = .bl true) fun _ _ _ => False) : PySem.W.WalkO q loose XP YP l.row.toRowW d [] (fun f vs => PySem.call f vs) := by
  refine Att.attach_call hn hdf ?_
  intro w s0 s1 mg mb fa o pm cd doc a vs ns gr Y ho hd hcd hmg hobj hints hlen hg
  have inK := hY w _ Y
  obtain ⟨fd, hb, hF⟩ := F w mg fa _ inK gr.T.g hmg
  exact law_end inK gr.T.g gr.T.b gr.T.builtins gr.T.nolimit hg hobj hints (Nat.le_trans hlen (by decide)) room hF hb (hc w ns hlen) fun _ _ _ z => z
end D

namespace D
open PySem PySem.Spec PyProof.Rows L2

section
variable {B : Bs} {X : Cx} {Γ : G} {μ : Mu} {Q : A → Mu → Prop} {Z : AD} {a b c e : Expr} {es : List Expr} {pos : Pos} {st : Stmt} {rest : List Stmt}

theorem rdG.imp {tg : Expr} {v : V} {σ : L2.St} {H : Hp} {R R' : L2.St → Hp → Prop} (h : rdG X tg v σ H R) (w : ∀ σ H, R σ H → R' σ H) : rdG X tg v σ H R' :=
  ⟨fun pins s u I r => thn (h.o pins s u I r) fun _ _ ⟨σ', H', I', q⟩ => ⟨σ', H', I', w _ _ q⟩⟩
variable {QG : G → Mu → Prop}
theorem wG_name (i : Nat) {x : Str} {y : A} (q : QG (Γ.set i (some y)) μ) (hN : X.N.Nodup) (hi : X.N[i]? = some x := by rfl) (hx : Loc X.env.scope x := by first | exact Or.inl rfl | exact Or.inr rfl)
    (hf : X.fn x = true ∨ X.env.scope.names.lookup x = some .local := by first | exact .inl rfl | exact .inr rfl) : wG B X (.Name x pos) y Γ μ QG := fun σ M F H v bo rs rl rp =>
  rd_pg (pg_name hN hi hx hf) (show QS X.K M F QG (σ.set i (some v)) H from ⟨_, F, μ, .refl _, rs.set rp, rl, q⟩)
def rdGs (X : Cx) (ts : List Expr) : TGs := fun vs σ H Q => Bx (∀ (pins : List (Addr × Obj)) (s : Shared) (us : List Value), Inv X pins σ H s → Vals vs us →
    wpAny (model X.prog X.w) X.A (assignInOrder ((assignEach ts X.env).map (·.2)) us) (fun _ s' => ∃ σ' H', Inv X pins σ' H' s' ∧ Q σ' H') X.xe s)
def wGs (B : Bs) (X : Cx) (ts : List Expr) (ys : List A) (Γ : G) (μ : Mu) (Q : G → Mu → Prop) : Prop := ∀ σ M F H vs, B.ok M F → RelS X.K Γ F σ → Rel X.K μ M F H → RepL X.K F ys vs → rdGs X ts vs σ H (QS X.K M F Q)
theorem pgs_rd {ts : List Expr} : PGs X ts (rdGs X ts) := ⟨fun pins s _ _ _ us _ I r h => h.o pins s us I r⟩
theorem rd_pgs {ts : List Expr} {t : TGs} (h : PGs X ts t) {vs : List V} {σ : L2.St} {H : Hp} {R : L2.St → Hp → Prop} (q : t vs σ H R) : rdGs X ts vs σ H R := ⟨fun pins s us I r => h.run pins s σ H vs us R I r q⟩
theorem wGs_nil (q : QG Γ μ) : wGs B X [] [] Γ μ QG := fun σ M F H vs bo rs rl rp => by
  simp only [RepL] at rp; subst rp
  exact rd_pgs pgs_nil (show gNil [] σ H (QS X.K M F QG) from ⟨rfl, Γ, F, μ, .refl _, rs, rl, q⟩)
theorem wGs_cons {t : Expr} {ts : List Expr} {y : A} {ys : List A} (h : wG B X t y Γ μ fun Γ1 μ1 => wGs B X ts ys Γ1 μ1 QG) (hs : (assignEach (t :: ts) X.env).map (·.2) = assign t X.env :: (assignEach ts X.env).map (·.2) := by rfl) : wGs B X (t :: ts) (y :: ys) Γ μ QG := fun σ M F H vs bo rs rl rp => by
  simp only [RepL] at rp
  obtain ⟨v, r, rfl, h1, h2⟩ := rp
  refine rd_pgs (pgs_cons pg_rd pgs_rd hs) ⟨v, r, rfl, (h σ M F H v bo rs rl h1).imp fun σ' H' q => ?_⟩
  obtain ⟨Γ', F', μ', ex, rs', rl', q⟩ := q
  refine ⟨fun pins s us I rv => ?_⟩
  refine thn ((q σ' M F' H' r (bo.mono ex) rs' rl' (h2.mono ex)).o pins s us I rv) fun _ _ ⟨σ2, H2, I2, q2⟩ => ⟨σ2, H2, I2, q2.mono ex⟩
theorem wG_tup {ts : List Expr} {k : Nat} {ys : List A} (h : wGs B X ts ys Γ μ QG) (hc : X.calm = true := by rfl) (hn : (assignEach ts X.env).length = ys.length := by rfl) (hst : (assignEach ts X.env).findIdx? (·.1) = none := by rfl) : wG B X (.Tuple ts k pos) (.tup ys) Γ μ QG := fun σ M F H v bo rs rl rp => by
  rw [rep_tup] at rp
  obtain ⟨p, vs, rfl, h1, h2⟩ := rp
  exact rd_pg (pg_tup (n := ys.length) hc pgs_rd hn hst) ⟨p, vs, rfl, rl.sub.t h1, h2.len, h σ M F H vs bo rs rl h2⟩
theorem wG_sub {o i : Expr} {y : A} (h : wE B X o Γ μ fun x μ1 => wE B X i Γ μ1 fun z μ2 => ∃ p xs k j, x = .loc p ∧ z = .int k ∧ μ2 p = some (.lst xs) ∧ ixN xs.length k = some j ∧ QG Γ (μ2.upd p (.lst (xs.set j y))))
    (ha : ∀ v, assign (.Subscript o i pos) X.env v = (holding [v] (eval o X.env) >>= fun a => holding [v, a] (eval i X.env) >>= fun b => (standAt pos >>= fun _ => (holding [v, a, b] (setItem a b v) >>= fun _ => release [v, a, b] []))) := by intro _; rfl) : wG B X (.Subscript o i pos) y Γ μ QG := fun σ M F H v bo rs rl rp =>
  rd_pg (pg_sub pe_rd pe_rd set_list ha) (by
    refine (h σ M F H bo rs rl).imp fun ov H1 ⟨x, F1, μ1, e1, r1, p1, q1⟩ => ?_
    refine (q1 σ M F1 H1 (bo.mono e1) (rs.mono e1) r1).imp fun iv H2 ⟨z, F2, μ2, e2, r2, p2, p, xs, k, j, ex, ez, hp, hj, q2⟩ => ?_
    subst ex; subst ez
    rw [rep_loc] at p1; rw [rep_int] at p2
    obtain ⟨_, ob, g1, vs, rfl, g2⟩ := r2.own p _ hp
    refine ⟨p, vs, k, j, p1, p2, g1, by rw [g2.len]; exact hj, Γ, F2, _, e1.trans e2, rs.mono (e1.trans e2), r2.write hp (m' := .lst (xs.set j y)) ⟨_, rfl, g2.set j (rp.mono (e1.trans e2))⟩, q2⟩)

theorem wSs.weak {μ' : Mu} (w : ∀ p m, μ' p = some m → μ p = some m) (h : wSs B X rest Γ μ' Z) : wSs B X rest Γ μ Z := fun σ M F H bo rs r => h σ M F H bo rs (r.weak w)
theorem wSs_frz (i : Nat) {p : Addr} {xs : List A} (hp : μ p = some (.lst xs)) (hi : Γ[i]? = some (some (.loc p))) (h : wSs B X rest (Γ.set i (some (.lst xs))) (μ.del p) Z) : wSs B X rest Γ μ Z := fun σ M F H bo rs r => by
  obtain ⟨F', ex, rl', rp⟩ := r.freeze hp
  refine ends_mono ex (h σ M F' H (bo.mono ex) ?_ rl')
  have r2 := rs.mono ex
  refine ⟨by rw [List.length_set]; exact rs.len, fun j x q => ?_⟩
  rw [List.getElem?_set] at q
  split at q
  · rename_i e
    subst e
    split at q
    · cases q
      obtain ⟨v, h1, h2⟩ := rs.at_ _ _ hi
      rw [rep_loc] at h2; subst h2
      exact ⟨_, h1, rp⟩
    · cases q
  · exact r2.at_ j x q
theorem wSs_nil (q : Z.nx Γ μ) : wSs B X [] Γ μ Z := fun σ M F H bo rs r => rd_pss pss_nil (show QS X.K M F Z.nx σ H from ⟨Γ, F, μ, .refl _, rs, r, q⟩)
theorem wSs_cons (h : wS B X st Γ μ { Z with nx := fun Γ' μ' => wSs B X rest Γ' μ' Z }) : wSs B X (st :: rest) Γ μ Z := fun σ M F H bo rs r => rd_pss (pss_cons ps_rd pss_rd) (by
  refine (h σ M F H bo rs r).imp (fun σ' H' q => ?_) (fun _ _ q => q) (fun _ _ q => q) (fun _ _ q => q)
  obtain ⟨Γ', F', μ', ex, rs', r', q⟩ := q
  exact ends_mono ex (q σ' M F' H' (bo.mono ex) rs' r'))
theorem wS_of {t : TS} (h : PS X st t) (q : ∀ σ M F H, B.ok M F → RelS X.K Γ F σ → Rel X.K μ M F H → t (ends X.K M F Z) σ H) : wS B X st Γ μ Z := fun σ M F H bo rs r => rd_ps h (q σ M F H bo rs r)
theorem wS_pass (q : Z.nx Γ μ) : wS B X (.Pass pos) Γ μ Z := wS_of ps_pass fun σ M F H bo rs r => (show QS X.K M F Z.nx σ H from ⟨Γ, F, μ, .refl _, rs, r, q⟩)
theorem wS_break (q : Z.bk Γ μ) : wS B X (.Break pos) Γ μ Z := wS_of ps_break fun σ M F H bo rs r => (show QS X.K M F Z.bk σ H from ⟨Γ, F, μ, .refl _, rs, r, q⟩)
theorem wS_continue (q : Z.ct Γ μ) : wS B X (.Continue pos) Γ μ Z := wS_of ps_continue fun σ M F H bo rs r => (show QS X.K M F Z.ct σ H from ⟨Γ, F, μ, .refl _, rs, r, q⟩)
theorem wS_expr (h : wE B X e Γ μ fun _ μ' => Z.nx Γ μ') (hs : swapsWith e none pos.line X.env = pure false := by rfl) : wS B X (.Expr e pos) Γ μ Z := wS_of (ps_expr pe_rd hs) fun σ M F H bo rs r =>
  (h σ M F H bo rs r).imp fun v H' ⟨x, F', μ', e1, r1, _, q⟩ => ⟨Γ, F', μ', e1, rs.mono e1, r1, q⟩
theorem wS_ret (h : wE B X e Γ μ Z.rt) : wS B X (.Return (some e) pos) Γ μ Z := wS_of (ps_ret pe_rd) fun σ M F H bo rs r => h σ M F H bo rs r
theorem wS_retN (h : Z.rt .non μ) : wS B X (.Return none pos) Γ μ Z := wS_of ps_retN fun σ M F H bo rs r => (show QE X.K M F Z.rt .non H from .pure r (rep_non.mpr rfl) h)
theorem wS_if {s1 s2 : List Stmt} (h : wT B X c Γ μ fun k μ1 => (k = true → wSs B X s1 Γ μ1 Z) ∧ (k = false → wSs B X s2 Γ μ1 Z)) : wS B X (.If c s1 s2 pos) Γ μ Z := wS_of (ps_if pt_rd pss_rd pss_rd) fun σ M F H bo rs r => by
  refine (h σ M F H bo rs r).imp fun k H1 ⟨F1, μ1, e1, r1, q1, q2⟩ => ?_
  cases k with
  | true => exact iteT (ends_mono e1 (q1 rfl σ M F1 H1 (bo.mono e1) (rs.mono e1) r1))
  | false => exact iteF (ends_mono e1 (q2 rfl σ M F1 H1 (bo.mono e1) (rs.mono e1) r1))
theorem wS_set (i : Nat) {x : Str} {pos' : Pos} (h : wE B X e Γ μ fun y μ1 => Z.nx (Γ.set i (some y)) μ1) (hN : X.N.Nodup) (hi : X.N[i]? = some x := by rfl) (hx : Loc X.env.scope x := by first | exact Or.inl rfl | exact Or.inr rfl)
    (hs : swapsWith e (some (.Name x pos')) pos.line X.env = pure false := by rfl) (hf : X.fn x = true ∨ X.env.scope.names.lookup x = some .local := by first | exact .inl rfl | exact .inr rfl) : wS B X (.Assign [.Name x pos'] e pos) Γ μ Z :=
  wS_of (ps_set hN hi hx pe_rd hs hf) fun σ M F H bo rs r => (h σ M F H bo rs r).imp fun v H1 ⟨y, F1, μ1, e1, r1, p1, q1⟩ =>
    (show QS X.K M F Z.nx (σ.set i (some v)) H1 from ⟨_, F1, μ1, e1, (rs.mono e1).set p1, r1, q1⟩)
theorem wS_asg {tg : Expr} (h : wE B X e Γ μ fun y μ1 => wG B X tg y Γ μ1 Z.nx) (hs : swapsWithSole [tg] e pos.line X.env = pure false := by rfl) (hw : swappedStores [tg] e X.env = pure none := by rfl) (h1 : (assignEach [tg] X.env).map (·.2) = [assign tg X.env] := by rfl) : wS B X (.Assign [tg] e pos) Γ μ Z :=
  wS_of (ps_asg pe_rd pg_rd hs hw h1) fun σ M F H bo rs r => (h σ M F H bo rs r).imp fun v H1 ⟨y, F1, μ1, e1, r1, p1, q1⟩ =>
    (q1 σ M F1 H1 v (bo.mono e1) (rs.mono e1) r1 p1).imp fun σ' H' q => q.mono e1
theorem wS_par (i j : Nat) {x y : Str} {px py pt pt2 : Pos} {kt k2 : Nat} (h : wA B X [a, b] Γ μ fun xs μ1 => ∃ u w, xs = [u, w] ∧ Z.nx ((Γ.set i (some u)).set j (some w)) μ1) (hN : X.N.Nodup) (hc : X.calm = true := by rfl) (hi : X.N[i]? = some x := by rfl) (hj : X.N[j]? = some y := by rfl) (hij : i ≠ j := by decide)
    (hx : X.env.scope.names.lookup x = some .local := by rfl) (hy : X.env.scope.names.lookup y = some .local := by rfl)
    (hw : swappedStores [.Tuple [.Name x px, .Name y py] kt pt] (.Tuple [a, b] k2 pt2) X.env = pure (some [x, y]) := by rfl)
    (hs : swapsWithSole [.Tuple [.Name x px, .Name y py] kt pt] (.Tuple [a, b] k2 pt2) pos.line X.env = pure false := by rfl) : wS B X (.Assign [.Tuple [.Name x px, .Name y py] kt pt] (.Tuple [a, b] k2 pt2) pos) Γ μ Z :=
  wS_of (ps_par hc hN hi hj hij hx hy pa_rd hw hs) fun σ M F H bo rs r => (h σ M F H bo rs r).imp fun vs H1 ⟨xs, F1, μ1, e1, r1, p1, u, w, ex, q1⟩ => by
    subst ex
    obtain ⟨v1, v2, rfl, g1, g2⟩ := p1.two
    exact ⟨v1, v2, rfl, _, F1, μ1, e1, ((rs.mono e1).set g1).set g2, r1, q1⟩

theorem wS_while {body : List Stmt} (W : Nat → G → Mu → Prop) (m0 : Nat) (h0 : W m0 Γ μ)
    (turn : ∀ m Γ μ, W m Γ μ → wT B X c Γ μ fun k μ1 => (k = true → wSs B X body Γ μ1 { nx := fun Γ' μ' => ∃ m', m' < m ∧ W m' Γ' μ', rt := Z.rt, ct := fun Γ' μ' => ∃ m', m' < m ∧ W m' Γ' μ', bk := Z.nx }) ∧ (k = false → Z.nx Γ μ1))
    (hp : PassesOwn (model X.prog X.w) X.A X.env X.xe := by first | exact PassesOwn.never | assumption) : wS B X (.While c body [] pos) Γ μ Z := wS_of (ps_while hp pt_rd pss_rd) fun σ M F H bo rs r => by
  refine ⟨fun m σ' H' => ∃ Γ' F' μ', Ex F F' ∧ RelS X.K Γ' F' σ' ∧ Rel X.K μ' M F' H' ∧ W m Γ' μ', ⟨m0, Γ, F, μ, .refl _, rs, r, h0⟩, fun m σ' H' ⟨Γ', F', μ', e1, rs1, r1, w1⟩ => ?_⟩
  refine (turn m Γ' μ' w1 σ' M F' H' (bo.mono e1) rs1 r1).imp fun k H1 ⟨F2, μ2, e2, r2, q1, q2⟩ => ?_
  cases k with
  | true =>
    refine iteT ⟨fun σ2 H2 => ∃ m', m' < m ∧ ∃ Γ' F' μ', Ex F F' ∧ RelS X.K Γ' F' σ2 ∧ Rel X.K μ' M F' H2 ∧ W m' Γ' μ', fun _ _ z => z, ?_⟩
    refine (q1 rfl σ' M F2 H1 (bo.mono (e1.trans e2)) (rs1.mono e2) r2).imp (fun σ3 H3 q => ?_) (fun v H3 q => q.mono (e1.trans e2)) (fun σ3 H3 q => q.mono (e1.trans e2)) (fun σ3 H3 q => ?_)
    · obtain ⟨Γ3, F3, μ3, e3, rs3, r3, m', hm, w3⟩ := q
      exact ⟨m', hm, Γ3, F3, μ3, (e1.trans e2).trans e3, rs3, r3, w3⟩
    · obtain ⟨Γ3, F3, μ3, e3, rs3, r3, m', hm, w3⟩ := q
      exact ⟨m', hm, Γ3, F3, μ3, (e1.trans e2).trans e3, rs3, r3, w3⟩
  | false => exact iteF ⟨Γ', F2, μ2, e1.trans e2, rs1.mono e2, r2, q2 rfl⟩

structure WkA (K : PySem.W.Frag) (F : Hp) (J : It) (ys : List A) : Prop where
  goes : ∀ i H, i < ys.length → Ex F H → J.go i H
  stops : ∀ H, Ex F H → J.stop ys.length H
  yields : ∀ i H x H' M F1 μ, i < ys.length → Ex F F1 → Rel K μ M F1 H → J.yld i H x H' → ∃ F2 y, Ex F1 F2 ∧ Rel K μ M F2 H' ∧ ys[i]? = some y ∧ Rep K F2 y x
def rdI (X : Cx) (tg iter : Expr) : TI := fun σ H R => Bx (∀ (pins : List (Addr × Obj)) (s : Shared), Inv X pins σ H s → wpAny (model X.prog X.w) X.A (eval iter X.env) (fun v s1 => wpAny (model X.prog X.w) X.A (pyIter v) (PIE X pins σ tg R) X.xe s1) X.xe s)
theorem pi_rd {tg iter : Expr} : PI X tg iter (rdI X tg iter) := ⟨fun pins s _ _ _ I h => h.o pins s I⟩
theorem rd_pi {tg iter : Expr} {wi : TI} (h : PI X tg iter wi) {σ : L2.St} {H : Hp} {R : It → Hp → Prop} (q : wi σ H R) : rdI X tg iter σ H R := ⟨fun pins s I => h.run pins s σ H R I q⟩
def wIt (B : Bs) (X : Cx) (tg iter : Expr) (Γ : G) (μ : Mu) (R : List A → Mu → Prop) : Prop := ∀ σ M F H, B.ok M F → RelS X.K Γ F σ → Rel X.K μ M F H → rdI X tg iter σ H fun J H' => ∃ ys F' μ', Ex F F' ∧ Rel X.K μ' M F' H' ∧ WkA X.K F' J ys ∧ R ys μ'
variable {R : List A → Mu → Prop} {tg : Expr} {body : List Stmt}
theorem wS_for (h : wIt B X tg a Γ μ fun ys μ1 => ∃ I : Nat → G → Mu → Prop, I 0 Γ μ1 ∧
      (∀ (i : Nat) y Γ' μ', ys[i]? = some y → I i Γ' μ' → wG B X tg y Γ' μ' fun Γ2 μ2 => wSs B X body Γ2 μ2 { nx := I (i + 1), rt := Z.rt, ct := I (i + 1), bk := Z.nx }) ∧ (∀ Γ' μ', I ys.length Γ' μ' → Z.nx Γ' μ'))
    (hp : PassesOwn (model X.prog X.w) X.A X.env X.xe := by first | exact PassesOwn.never | assumption) (hc : X.calm = true := by rfl) (hs : ∀ x, foldedSetIterable a X.env x = pure x := by intro _; rfl) : wS B X (.For tg a body [] pos) Γ μ Z :=
  wS_of (ps_for hp hc pi_rd pg_rd pss_rd hs) fun σ M F H bo rs r => by
  refine ⟨fun pins s I0 => ?_⟩
  refine thn ((h σ M F H bo rs r).o pins s I0) fun v s1 h1 => thn h1 fun itv s2 h2 => ?_
  obtain ⟨it, fp, tn, J, H2, g1, g2, g3, g4, g5, ys, F1, μ1, e1, r1, wk, I, i0, turn, done⟩ := h2
  refine ⟨it, fp, tn, J, H2, g1, g2, g3, g4, g5, fun i m σ' H' => m = ys.length - i ∧ i ≤ ys.length ∧ QS X.K M F1 (I i) σ' H', ⟨ys.length, by simp, Nat.zero_le _, Γ, F1, μ1, .refl _, rs.mono e1, r1, i0⟩, ?_⟩
  rintro i m σ' H' ⟨rfl, hi, Γ', F', μ', e2, rs2, r2, q⟩
  by_cases lt : i < ys.length
  · refine .inr ⟨wk.goes i H' lt (e2.trans r2.sub), fun σ3 H3 => QS X.K M F1 (I (i + 1)) σ3 H3, fun σ3 H3 q3 => ⟨ys.length - (i + 1), by omega, rfl, lt, q3⟩, fun x H3 yl => ?_⟩
    obtain ⟨F2, y, e3, r3, hy, rp⟩ := wk.yields i H' x H3 M F' μ' lt e2 r2 yl
    refine (turn i y Γ' μ' hy q σ' M F2 H3 x (bo.mono (e1.trans (e2.trans e3))) (rs2.mono e3) r3 rp).imp fun σ4 H4 q4 => ?_
    obtain ⟨Γ4, F4, μ4, e4, rs4, r4, q4⟩ := q4
    have eF : Ex F1 F4 := (e2.trans e3).trans e4
    exact (q4 σ4 M F4 H4 (bo.mono (e1.trans eF)) rs4 r4).imp (fun _ _ q => q.mono eF) (fun _ _ q => q.mono (e1.trans eF)) (fun _ _ q => q.mono (e1.trans eF)) (fun _ _ q => q.mono eF)
  · obtain rfl : i = ys.length := by omega
    exact .inl ⟨wk.stops H' (e2.trans r2.sub), Γ', F', μ', e1.trans e2, rs2, r2, done Γ' μ' q⟩

theorem wk_list {K : PySem.W.Frag} {F : Hp} {p : Addr} {ys : List A} {vs : List V} (h : SqL K F p vs) (r : RepL K F ys vs) : WkA K F (Itl K p) ys :=
  { goes := fun i H hi e => ⟨vs, vs[i]'(by rw [r.len]; exact hi), e.l h, by simp [r.len, hi]⟩
    stops := fun H e => ⟨vs, e.l h, by rw [r.len]; exact Nat.le_refl _⟩
    yields := fun i H x H' M F1 μ hi e rl yl => by
      obtain ⟨rfl, g⟩ := yl
      obtain ⟨v, h1, h2⟩ := r.get (List.getElem?_eq_getElem hi)
      have := g vs ((e.trans rl.sub).l h)
      rw [h1] at this; cases this
      exact ⟨F1, _, .refl _, rl, List.getElem?_eq_getElem hi, h2.mono e⟩ }
theorem wk_tup {K : PySem.W.Frag} {F : Hp} {p : Addr} {ys : List A} {vs : List V} (h : SqT K F p vs) (r : RepL K F ys vs) : WkA K F (Itt K p) ys :=
  { goes := fun i H hi e => ⟨vs, vs[i]'(by rw [r.len]; exact hi), e.t h, by simp [r.len, hi]⟩
    stops := fun H e => ⟨vs, e.t h, by rw [r.len]; exact Nat.le_refl _⟩
    yields := fun i H x H' M F1 μ hi e rl yl => by
      obtain ⟨rfl, g⟩ := yl
      obtain ⟨v, h1, h2⟩ := r.get (List.getElem?_eq_getElem hi)
      have := g vs ((e.trans rl.sub).t h)
      rw [h1] at this; cases this
      exact ⟨F1, _, .refl _, rl, List.getElem?_eq_getElem hi, h2.mono e⟩ }
theorem wIt_list (h : wE B X a Γ μ fun x μ1 => ∃ ys, x = .lst ys ∧ R ys μ1) : wIt B X tg a Γ μ R := fun σ M F H bo rs rl => rd_pi (pi_list pe_rd) (by
  refine (h σ M F H bo rs rl).imp fun v H1 ⟨x, F1, μ1, e1, r1, p1, ys, ex, q1⟩ => ?_
  subst ex; rw [rep_lst] at p1
  obtain ⟨p, vs, rfl, h1, h2⟩ := p1
  exact ⟨p, rfl, ⟨vs, .inl (.inl (r1.sub _ _ h1))⟩, ys, F1, μ1, e1, r1, wk_list (.inl (.inl h1)) h2, q1⟩)
theorem wIt_fls (h : wE B X a Γ μ fun x μ1 => ∃ ys, x = .fls ys ∧ R ys μ1) : wIt B X tg a Γ μ R := fun σ M F H bo rs rl => rd_pi (pi_list pe_rd) (by
  refine (h σ M F H bo rs rl).imp fun v H1 ⟨x, F1, μ1, e1, r1, p1, ys, ex, q1⟩ => ?_
  subst ex; rw [rep_fls] at p1
  obtain ⟨p, vs, rfl, h1, h2⟩ := p1
  exact ⟨p, rfl, ⟨vs, r1.sub.l h1⟩, ys, F1, μ1, e1, r1, wk_list h1 h2, q1⟩)
theorem wIt_tup (h : wE B X a Γ μ fun x μ1 => ∃ ys, x = .tup ys ∧ R ys μ1) : wIt B X tg a Γ μ R := fun σ M F H bo rs rl => rd_pi (pi_tup pe_rd) (by
  refine (h σ M F H bo rs rl).imp fun v H1 ⟨x, F1, μ1, e1, r1, p1, ys, ex, q1⟩ => ?_
  subst ex; rw [rep_tup] at p1
  obtain ⟨p, vs, rfl, h1, h2⟩ := p1
  exact ⟨p, rfl, ⟨vs, r1.sub.t h1⟩, ys, F1, μ1, e1, r1, wk_tup h1 h2, q1⟩)
def rgA (lo : Int) (n : Nat) : List A := (List.range n).map fun i => A.int (lo + (i : Nat))
theorem rgA_len (lo : Int) (n : Nat) : (rgA lo n).length = n := by simp [rgA]
theorem rgA_get {lo : Int} {n i : Nat} (h : i < n) : (rgA lo n)[i]? = some (.int (lo + (i : Nat))) := by simp [rgA, h]
theorem wk_range {K : PySem.W.Frag} {F : Hp} {lo : Int} {n : Nat} : WkA K F (Itr lo n) (rgA lo n) :=
  { goes := fun i H hi _ => by rw [rgA_len] at hi; exact hi
    stops := fun H _ => by rw [rgA_len]; exact Nat.le_refl _
    yields := fun i H x H' M F1 μ hi e rl yl => by
      obtain ⟨rfl, rfl⟩ := yl
      rw [rgA_len] at hi
      exact ⟨F1, _, .refl _, rl, rgA_get hi, rep_int.mpr rfl⟩ }
theorem wIt_range1 {p : Pos} (hm : X.mg "range" = none) (h : wA B X [a] Γ μ fun xs μ1 => ∃ n : Int, xs = [.int n] ∧ -(2 ^ 62) ≤ n ∧ n < 2 ^ 62 ∧ R (rgA 0 n.toNat) μ1) (hg : Gl X "range" := by rfl) (hs : starEach [a] X.env = [(false, eval a X.env)] := by rfl) :
    wIt B X tg (.Call (.Name "range" p) [a] [] pos) Γ μ R := fun σ M F H bo rs rl => rd_pi (pi_range1 hg hm pa_rd hs) (by
  refine (h σ M F H bo rs rl).imp fun vs H1 ⟨xs, F1, μ1, e1, r1, p1, n, ex, n1, n2, q1⟩ => ?_
  subst ex
  obtain ⟨v, rfl, h1⟩ := p1.one
  rw [rep_int] at h1; subst h1
  exact ⟨n, rfl, n1, n2, _, F1, μ1, e1, r1, wk_range, q1⟩)
theorem wIt_range2 {p : Pos} (hm : X.mg "range" = none) (h : wA B X [a, b] Γ μ fun xs μ1 => ∃ i j : Int, xs = [.int i, .int j] ∧ (-(2 ^ 62) ≤ i ∧ i < 2 ^ 62 ∧ -(2 ^ 62) ≤ j ∧ j < 2 ^ 62) ∧ R (rgA i (j - i).toNat) μ1) (hg : Gl X "range" := by rfl)
    (hs : starEach [a, b] X.env = [(false, eval a X.env), (false, eval b X.env)] := by rfl) (hs2 : starEach [b] X.env = [(false, eval b X.env)] := by rfl) :
    wIt B X tg (.Call (.Name "range" p) [a, b] [] pos) Γ μ R := fun σ M F H bo rs rl => rd_pi (pi_range2 hg hm pa_rd hs hs2) (by
  refine (h σ M F H bo rs rl).imp fun vs H1 ⟨xs, F1, μ1, e1, r1, p1, i, j, ex, n1, q1⟩ => ?_
  subst ex
  obtain ⟨v, w, rfl, h1, h2⟩ := p1.two
  rw [rep_int] at h1 h2; subst h1; subst h2
  exact ⟨i, j, rfl, n1, _, F1, μ1, e1, r1, wk_range, q1⟩)
def rgC (lo c : Int) (n : Nat) : List A := (List.range n).map fun i => A.int (lo + (i : Nat) * c)
theorem rgC_len (lo c : Int) (n : Nat) : (rgC lo c n).length = n := by simp [rgC]
theorem rgC_get {lo c : Int} {n i : Nat} (h : i < n) : (rgC lo c n)[i]? = some (.int (lo + (i : Nat) * c)) := by simp [rgC, h]
theorem wIt_range3 {p : Pos} (hm : X.mg "range" = none) (h : wA B X [a, b, c] Γ μ fun xs μ1 => ∃ (i j k : Int) (n : Nat), xs = [.int i, .int j, .int k] ∧ RgC i j k n ∧ R (rgC i k n) μ1) (hg : Gl X "range" := by rfl)
    (hs : starEach [a, b, c] X.env = (false, eval a X.env) :: starEach [b, c] X.env := by rfl) (hpl : (backTo pos (starEach [b, c] X.env)).any (·.1) = false := by rfl) :
    wIt B X tg (.Call (.Name "range" p) [a, b, c] [] pos) Γ μ R := fun σ M F H bo rs rl => rd_pi (pi_range3 hg hm pa_rd hs hpl) (by
  refine (h σ M F H bo rs rl).imp fun vs H1 ⟨xs, F1, μ1, e1, r1, p1, i, j, k, n, ex, n1, q1⟩ => ?_
  subst ex
  simp only [RepL] at p1
  obtain ⟨v, r, rfl, h1, v2, r', rfl, h2, v3, r'', rfl, h3, rfl⟩ := p1
  rw [rep_int] at h1 h2 h3; subst h1; subst h2; subst h3
  refine ⟨i, j, k, n, rfl, n1, _, F1, μ1, e1, r1, ?_, q1⟩
  exact { goes := fun i H hi _ => by rw [rgC_len] at hi; exact hi
          stops := fun H _ => by rw [rgC_len]; exact Nat.le_refl _
          yields := fun i H x H' M F1 μ hi e rl yl => by
            obtain ⟨rfl, rfl⟩ := yl
            rw [rgC_len] at hi
            exact ⟨F1, _, .refl _, rl, rgC_get hi, rep_int.mpr rfl⟩ })
def pairsA (f g : Nat → Option A) : Nat → List A
  | 0 => []
  | n + 1 => pairsA f g n ++ [.tup [(f n).getD .non, (g n).getD .non]]
def zipA : List A → List A → List A
  | x :: xs, y :: ys => .tup [x, y] :: zipA xs ys
  | _, _ => []
theorem zipA_len : ∀ xs ys : List A, (zipA xs ys).length = min xs.length ys.length
  | [], _ => by simp [zipA]
  | _ :: _, [] => by simp [zipA]
  | x :: xs, y :: ys => by simp only [zipA, List.length_cons, zipA_len xs ys]; omega
theorem zipA_get : ∀ {xs ys : List A} {i : Nat} {x y : A}, xs[i]? = some x → ys[i]? = some y → (zipA xs ys)[i]? = some (.tup [x, y])
  | [], _, _, _, _, h, _ => by simp at h
  | _ :: _, [], _, _, _, _, h => by simp at h
  | x :: xs, y :: ys, 0, _, _, h, h' => by simp at h h'; subst h; subst h'; rfl
  | x :: xs, y :: ys, i + 1, _, _, h, h' => by
    simp only [zipA, List.getElem?_cons_succ] at h h' ⊢
    exact zipA_get h h'
theorem zipA_map {α β : Type} (f : α → A) (g : β → A) : ∀ (l : List α) (m : List β), zipA (l.map f) (m.map g) = (l.zip m).map fun p => A.tup [f p.1, g p.2]
  | [], _ => by simp [zipA]
  | _ :: _, [] => by simp [zipA]
  | a :: l, b :: m => by simp only [List.map_cons, zipA, List.zip_cons_cons, zipA_map f g l m]
theorem pair_new {K : PySem.W.Frag} {μ : Mu} {M F H : Hp} {T : Addr} {x y : A} {v w : V} (rl : Rel K μ M F H) (n : H T = none) (h1 : Rep K F x v) (h2 : Rep K F y w) : ∃ F2, Ex F F2 ∧ Rel K μ M F2 (upd H T (.tup [v, w])) ∧ Rep K F2 (.tup [x, y]) (.ref T) := by
  obtain ⟨ex, rl'⟩ := rl.newF (o := .tup [v, w]) n
  exact ⟨_, ex, rl', rep_tup.mpr ⟨T, _, rfl, .inl (.inl upd_same), .cons (h1.mono ex) (.cons (h2.mono ex) .nil)⟩⟩
theorem wk_zip {K : PySem.W.Frag} {F : Hp} {p q : Addr} {xs ys : List A} {vs ws : List V} (h : SqL K F p vs) (r : RepL K F xs vs) (g : SqL K F q ws) (r' : RepL K F ys ws) : WkA K F (Itz K p q) (zipA xs ys) :=
  { goes := fun i H hi e => by
      rw [zipA_len] at hi
      have h1 : i < vs.length := by rw [r.len]; omega
      have h2 : i < ws.length := by rw [r'.len]; omega
      exact ⟨vs, ws, vs[i], ws[i], e.l h, e.l g, by simp [h1], by simp [h2]⟩
    stops := fun H e => ⟨vs, ws, e.l h, e.l g, by rw [zipA_len, r.len, r'.len]; omega⟩
    yields := fun i H x H' M F1 μ hi e rl yl => by
      rw [zipA_len] at hi
      obtain ⟨T, v, w, rfl, nT, rfl, g1, g2⟩ := yl
      have h1 := g1 vs ((e.trans rl.sub).l h)
      have h2 := g2 ws ((e.trans rl.sub).l g)
      obtain ⟨x1, k1, k2⟩ := r.rev h1
      obtain ⟨y1, k3, k4⟩ := r'.rev h2
      obtain ⟨F2, ex, rl', rp⟩ := pair_new rl nT (k2.mono e) (k4.mono e)
      exact ⟨F2, _, ex, rl', zipA_get k1 k3, rp⟩ }
theorem wk_zipT {K : PySem.W.Frag} {F : Hp} {p q : Addr} {xs ys : List A} {vs ws : List V} (h : SqT K F p vs) (r : RepL K F xs vs) (g : SqT K F q ws) (r' : RepL K F ys ws) : WkA K F (RZ.ItzT K p q) (zipA xs ys) :=
  { goes := fun i H hi e => by
      rw [zipA_len] at hi
      have h1 : i < vs.length := by rw [r.len]; omega
      have h2 : i < ws.length := by rw [r'.len]; omega
      exact ⟨vs, ws, vs[i], ws[i], e.t h, e.t g, by simp [h1], by simp [h2]⟩
    stops := fun H e => ⟨vs, ws, e.t h, e.t g, by rw [zipA_len, r.len, r'.len]; omega⟩
    yields := fun i H x H' M F1 μ hi e rl yl => by
      rw [zipA_len] at hi
      obtain ⟨T, v, w, rfl, nT, rfl, g1, g2⟩ := yl
      have h1 := g1 vs ((e.trans rl.sub).t h)
      have h2 := g2 ws ((e.trans rl.sub).t g)
      obtain ⟨x1, k1, k2⟩ := r.rev h1
      obtain ⟨y1, k3, k4⟩ := r'.rev h2
      obtain ⟨F2, ex, rl', rp⟩ := pair_new rl nT (k2.mono e) (k4.mono e)
      exact ⟨F2, _, ex, rl', zipA_get k1 k3, rp⟩ }
theorem wIt_zip {e2 : Expr} {p tpos : Pos} {elts : List Expr} {kk : Nat} (hm : X.mg "zip" = none) (h : wA B X [e, e2] Γ μ fun zs μ1 => ∃ xs ys, (zs = [.lst xs, .lst ys] ∨ zs = [.tup xs, .tup ys]) ∧ R (zipA xs ys) μ1) (hg : Gl X "zip" := by rfl)
    (hs : starEach [e, e2] X.env = (false, eval e X.env) :: starEach [e2] X.env := by rfl) (hpl : (backTo pos (starEach [e2] X.env)).any (·.1) = false := by rfl) : wIt B X (.Tuple elts kk tpos) (.Call (.Name "zip" p) [e, e2] [] pos) Γ μ R := fun σ M F H bo rs rl =>
  rd_pi (RZ.pi_zipA hg hm pa_rd hs hpl) (by
  refine (h σ M F H bo rs rl).imp fun us H1 ⟨zs, F1, μ1, e1, r1, p1, xs, ys, ez, q1⟩ => ?_
  rcases ez with ez | ez
  · subst ez
    obtain ⟨v, w, rfl, h1, h2⟩ := p1.two
    rw [rep_lst] at h1 h2
    obtain ⟨p, vs, rfl, g1, g2⟩ := h1
    obtain ⟨q, ws, rfl, k1, k2⟩ := h2
    exact ⟨p, q, vs, ws, rfl, .inl ⟨.inl (.inl (r1.sub _ _ g1)), .inl (.inl (r1.sub _ _ k1)), _, F1, μ1, e1, r1, wk_zip (.inl (.inl g1)) g2 (.inl (.inl k1)) k2, q1⟩⟩
  · subst ez
    obtain ⟨v, w, rfl, h1, h2⟩ := p1.two
    rw [rep_tup] at h1 h2
    obtain ⟨p, vs, rfl, g1, g2⟩ := h1
    obtain ⟨q, ws, rfl, k1, k2⟩ := h2
    exact ⟨p, q, vs, ws, rfl, .inr ⟨r1.sub.t g1, r1.sub.t k1, _, F1, μ1, e1, r1, wk_zipT g1 g2 k1 k2, q1⟩⟩)
def enumA : Nat → List A → List A
  | _, [] => []
  | n, x :: xs => .tup [.int (n : Nat), x] :: enumA (n + 1) xs
theorem enumA_len : ∀ (n : Nat) (xs : List A), (enumA n xs).length = xs.length
  | _, [] => rfl
  | n, x :: xs => by simp only [enumA, List.length_cons, enumA_len (n + 1) xs]
theorem enumA_get : ∀ {n : Nat} {xs : List A} {i : Nat} {x : A}, xs[i]? = some x → (enumA n xs)[i]? = some (.tup [.int ((n + i : Nat) : Int), x])
  | _, [], _, _, h => by simp at h
  | n, y :: xs, 0, _, h => by simp at h; subst h; simp [enumA]
  | n, y :: xs, i + 1, _, h => by
    simp only [enumA, List.getElem?_cons_succ] at h ⊢
    rw [enumA_get h, show n + 1 + i = n + (i + 1) by omega]
theorem wk_enum {K : PySem.W.Frag} {F : Hp} {p : Addr} {xs : List A} {vs : List V} (h : SqL K F p vs) (r : RepL K F xs vs) : WkA K F (Ite K p) (enumA 0 xs) :=
  { goes := fun i H hi e => by
      rw [enumA_len] at hi
      have h1 : i < vs.length := by rw [r.len]; omega
      exact ⟨vs, vs[i], e.l h, by simp [h1]⟩
    stops := fun H e => ⟨vs, e.l h, by rw [enumA_len, r.len]; exact Nat.le_refl _⟩
    yields := fun i H x H' M F1 μ hi e rl yl => by
      obtain ⟨T, v, rfl, nT, rfl, g1⟩ := yl
      have h1 := g1 vs ((e.trans rl.sub).l h)
      obtain ⟨x1, k1, k2⟩ := r.rev h1
      obtain ⟨F2, ex, rl', rp⟩ := pair_new (x := .int (i : Nat)) rl nT (rep_int.mpr rfl) (k2.mono e)
      exact ⟨F2, _, ex, rl', by rw [enumA_get k1]; simp, rp⟩ }
theorem wIt_enum {p tpos : Pos} {elts : List Expr} {kk : Nat} (hm : X.mg "enumerate" = none) (h : wA B X [e] Γ μ fun zs μ1 => ∃ xs, (zs = [.lst xs] ∨ zs = [.fls xs]) ∧ R (enumA 0 xs) μ1) (hg : Gl X "enumerate" := by rfl) (hs : starEach [e] X.env = [(false, eval e X.env)] := by rfl) :
    wIt B X (.Tuple elts kk tpos) (.Call (.Name "enumerate" p) [e] [] pos) Γ μ R := fun σ M F H bo rs rl => rd_pi (pi_enum hg hm pa_rd hs) (by
  refine (h σ M F H bo rs rl).imp fun us H1 ⟨zs, F1, μ1, e1, r1, p1, xs, ez, q1⟩ => ?_
  rcases ez with ez | ez
  · subst ez
    obtain ⟨v, rfl, h1⟩ := p1.one
    rw [rep_lst] at h1
    obtain ⟨p, vs, rfl, g1, g2⟩ := h1
    exact ⟨p, vs, rfl, .inl (.inl (r1.sub _ _ g1)), _, F1, μ1, e1, r1, wk_enum (.inl (.inl g1)) g2, q1⟩
  · subst ez
    obtain ⟨v, rfl, h1⟩ := p1.one
    rw [rep_fls] at h1
    obtain ⟨p, vs, rfl, g1, g2⟩ := h1
    exact ⟨p, vs, rfl, r1.sub.l g1, _, F1, μ1, e1, r1, wk_enum g1 g2, q1⟩)
def signsA (x : Str) : List A := x.cps.toList.map fun ch => A.str ⟨#[ch]⟩
theorem wIt_str (h : wE B X a Γ μ fun y μ1 => ∃ x, y = .str x ∧ R (signsA x) μ1) : wIt B X tg a Γ μ R := fun σ M F H bo rs rl => rd_pi (pi_str pe_rd) (by
  refine (h σ M F H bo rs rl).imp fun v H1 ⟨y, F1, μ1, e1, r1, p1, x, ex, q1⟩ => ?_
  subst ex; rw [rep_str] at p1; subst p1
  have hl : (signsA x).length = x.cps.size := by simp [signsA]
  refine ⟨x, rfl, _, F1, μ1, e1, r1, ?_, q1⟩
  exact { goes := fun i H hi _ => by rw [hl] at hi; exact hi
          stops := fun H _ => by rw [hl]; exact Nat.le_refl _
          yields := fun i H z H' M F1 μ hi e rl yl => by
            obtain ⟨rfl, ch, hc, rfl⟩ := yl
            refine ⟨F1, .str ⟨#[ch]⟩, .refl _, rl, ?_, rep_str.mpr rfl⟩
            simp only [signsA, List.getElem?_map, Array.getElem?_toList, hc, Option.map_some] })
end
end D

namespace D
open PySem PySem.Spec PyProof.Rows L2

def wipeA (Γ : G) : List Nat → G
  | [] => Γ
  | v :: vs => (wipeA Γ vs).set v none
theorem wipeA_len (Γ : G) : ∀ vs, (wipeA Γ vs).length = Γ.length
  | [] => rfl
  | v :: vs => by unfold wipeA; rw [List.length_set, wipeA_len Γ vs]
theorem wipeA_rel {K : PySem.W.Frag} {Γ : G} {F : Hp} {σ : L2.St} (h : RelS K Γ F σ) : ∀ vs, RelS K (wipeA Γ vs) F (wipe σ vs)
  | [] => h
  | v :: vs => by
    have ih := wipeA_rel h vs
    unfold wipeA wipe
    refine ⟨by rw [List.length_set, List.length_set]; exact ih.len, fun i x q => ?_⟩
    rw [List.getElem?_set] at q ⊢
    split at q
    · split at q <;> cases q
    · rename_i e
      rw [if_neg e]
      exact ih.at_ i x q
theorem wipe_set_out {σ : L2.St} {i : Nat} {o : Option V} : ∀ vs : List Nat, (wipe (σ.set i o) vs).set i none = (wipe σ vs).set i none
  | [] => by show (σ.set i o).set i none = σ.set i none; rw [List.set_set]
  | v :: vs => by
    have ih := wipe_set_out (σ := σ) (i := i) (o := o) vs
    show ((wipe (σ.set i o) vs).set v none).set i none = ((wipe σ vs).set v none).set i none
    by_cases e : v = i
    · subst e; rw [ih]
    · rw [List.set_comm _ _ e, List.set_comm _ _ e, ih]
theorem wipe_set {σ : L2.St} {i : Nat} {o : Option V} : ∀ {vs : List Nat}, i ∈ vs → wipe (σ.set i o) vs = wipe σ vs
  | v :: vs, h => by
    show (wipe (σ.set i o) vs).set v none = (wipe σ vs).set v none
    by_cases e : i = v
    · subst e; exact wipe_set_out vs
    · rw [wipe_set (List.mem_of_ne_of_mem e h)]
theorem wipe_wipe {σ : L2.St} {vs : List Nat} : ∀ us : List Nat, (∀ u ∈ us, u ∈ vs) → wipe (wipe σ us) vs = wipe σ vs
  | [], _ => rfl
  | u :: us, h => by
    show wipe ((wipe σ us).set u none) vs = wipe σ vs
    rw [wipe_set (h u List.mem_cons_self), wipe_wipe us fun v hv => h v (List.mem_cons_of_mem _ hv)]

section
variable {K : PySem.W.Frag} {μ : Mu} {M F H : Hp} {p : Addr} {m : MO} {o : HO}
theorem Rel.frmNew (h : Rel K μ M F H) (n : H p = none) : M p = none ∧ Rel K μ (upd M p o) F (upd H p o) := by
  have hF : F p = none := h.sub.none n
  have hμ : μ p = none := by
    cases q : μ p with
    | none => rfl
    | some m => obtain ⟨_, o, e, _⟩ := h.own p m q; rw [n] at e; cases e
  have hM : M p = none := by
    cases q : M p with
    | none => rfl
    | some m => obtain ⟨_, _, e⟩ := h.frm p m q; rw [n] at e; cases e
  refine ⟨hM, h.sub.trans (.new n), fun q m' e => ?_, fun q o' e => ?_⟩
  · obtain ⟨g1, o', g2, g3⟩ := h.own q m' e
    have hq : q ≠ p := fun z => by rw [z, n] at g2; cases g2
    exact ⟨g1, o', by rw [upd_ne hq]; exact g2, g3⟩
  · by_cases hq : q = p
    · subst hq; rw [upd_same] at e; cases e
      exact ⟨hF, hμ, upd_same⟩
    · rw [upd_ne hq] at e
      obtain ⟨g1, g2, g3⟩ := h.frm q o' e
      exact ⟨g1, g2, by rw [upd_ne hq]; exact g3⟩
theorem Rel.frmWrite {o' : HO} (h : Rel K μ (upd M p o) F H) : Rel K μ (upd M p o') F (upd H p o') := by
  obtain ⟨hF, hμ, hH⟩ := h.frm p o upd_same
  refine ⟨fun a u q => ?_, fun q m' e => ?_, fun q u e => ?_⟩
  · have ha : a ≠ p := fun z => by rw [z, hF] at q; cases q
    rw [upd_ne ha]; exact h.sub a u q
  · obtain ⟨g1, o1, g2, g3⟩ := h.own q m' e
    have hq : q ≠ p := fun z => by rw [z, hμ] at e; cases e
    exact ⟨g1, o1, by rw [upd_ne hq]; exact g2, g3⟩
  · by_cases hq : q = p
    · subst hq; rw [upd_same] at e; cases e
      exact ⟨hF, hμ, upd_same⟩
    · rw [upd_ne hq] at e
      obtain ⟨g1, g2, g3⟩ := h.frm q u (by rw [upd_ne hq]; exact e)
      exact ⟨g1, g2, by rw [upd_ne hq]; exact g3⟩
theorem Rel.frmOut (h : Rel K μ (upd M p o) F H) (n : M p = none) (r : RepO K F m o) : μ p = none ∧ Rel K (μ.upd p m) M F H := by
  obtain ⟨hF, hμ, hH⟩ := h.frm p o upd_same
  refine ⟨hμ, h.sub, fun q m' e => ?_, fun q u e => ?_⟩
  · by_cases hq : q = p
    · subst hq; rw [Mu.upd_same] at e; cases e
      exact ⟨hF, o, hH, r⟩
    · rw [Mu.upd_ne hq] at e; exact h.own q m' e
  · have hq : q ≠ p := fun z => by rw [z, n] at e; cases e
    obtain ⟨g1, g2, g3⟩ := h.frm q u (by rw [upd_ne hq]; exact e)
    exact ⟨g1, by rw [Mu.upd_ne hq]; exact g2, g3⟩
end

section
variable {B : Bs} {X : Cx} {Γ : G} {μ : Mu} {Q : A → Mu → Prop} {Z : AD} {e : Expr} {pos : Pos} {QG : G → Mu → Prop}
def wGw (B : Bs) (X : Cx) (tg : Expr) (vs : List Nat) (y : A) (Γ : G) (μ : Mu) (Q : G → Mu → Prop) : Prop := ∀ σ M F H v, B.ok M F → RelS X.K Γ F σ → Rel X.K μ M F H → Rep X.K F y v → rdG X tg v σ H fun σ' H' => wipe σ' vs = wipe σ vs ∧ QS X.K M F Q σ' H'
theorem wGw_name (i : Nat) {x : Str} {vs : List Nat} {y : A} (q : QG (Γ.set i (some y)) μ) (hN : X.N.Nodup) (hv : i ∈ vs := by decide) (hi : X.N[i]? = some x := by rfl) (hx : Loc X.env.scope x := by first | exact Or.inl rfl | exact Or.inr rfl)
    (hf : X.fn x = true ∨ X.env.scope.names.lookup x = some .local := by first | exact .inl rfl | exact .inr rfl) : wGw B X (.Name x pos) vs y Γ μ QG := fun σ M F H v bo rs rl rp =>
  rd_pg (pg_name hN hi hx hf) (show _ ∧ QS X.K M F QG (σ.set i (some v)) H from ⟨wipe_set hv, _, F, μ, .refl _, rs.set rp, rl, q⟩)
theorem wGw_tup2 (i j : Nat) {x x' : Str} {p1 p2 : Pos} {kk : Nat} {vs : List Nat} {y z : A} (q : QG ((Γ.set i (some y)).set j (some z)) μ) (hN : X.N.Nodup) (hc : X.calm = true := by rfl) (hv : i ∈ vs := by decide) (hv' : j ∈ vs := by decide) (hi : X.N[i]? = some x := by rfl) (hj : X.N[j]? = some x' := by rfl)
    (hx : Loc X.env.scope x := by first | exact Or.inl rfl | exact Or.inr rfl) (hx' : Loc X.env.scope x' := by first | exact Or.inl rfl | exact Or.inr rfl)
    (hf : X.fn x = true ∨ X.env.scope.names.lookup x = some .local := by first | exact .inl rfl | exact .inr rfl) (hf' : X.fn x' = true ∨ X.env.scope.names.lookup x' = some .local := by first | exact .inl rfl | exact .inr rfl) : wGw B X (.Tuple [.Name x p1, .Name x' p2] kk pos) vs (.tup [y, z]) Γ μ QG := fun σ M F H v bo rs rl rp => by
  rw [rep_tup] at rp
  obtain ⟨p, ws, rfl, h1, h2⟩ := rp
  obtain ⟨v1, v2, rfl, g1, g2⟩ := h2.two
  refine rd_pg (pg_tup (n := 2) hc (pgs_cons (pg_name hN hi hx hf) (pgs_cons (pg_name hN hj hx' hf') pgs_nil))) ⟨p, [v1, v2], rfl, rl.sub.t h1, rfl, v1, [v2], rfl, v2, [], rfl, rfl, ?_⟩
  exact ⟨by rw [wipe_set hv', wipe_set hv], _, F, μ, .refl _, (rs.set g1).set g2, rl, q⟩
abbrev bk (X : Cx) (scope : Scope) (s0 : Shared) (H0 : Hp) (C : Addr) (cl : List (Str × Addr)) (fp : List Addr) : Cx := X.blk s0 H0 scope (compEnvC scope cl C X.env) fp
variable {elt tg iter c : Expr} {scope : Scope} {own : List (Str × Nat)}
def lcTurns (B : Bs) (X : Cx) (scope : Scope) (tg elt : Expr) (ifs : List Expr) (vs : List Nat) (Γ : G) (ys : List A) (J : Nat → List A → Mu → Prop) : Prop :=
  ∀ (i : Nat) y acc μ', ys[i]? = some y → J i acc μ' → ∀ s0 H0 C cl fp, wGw B (bk X scope s0 H0 C cl fp) tg vs y (wipeA Γ vs) μ' fun Γ2 μ2 =>
    match ifs with
    | [] => ∀ s0 H0 C cl fp, wE B (bk X scope s0 H0 C cl fp) elt Γ2 μ2 fun z μ4 => J (i + 1) (acc ++ [z]) μ4
    | [c] => ∀ s0 H0 C cl fp, wT B (bk X scope s0 H0 C cl fp) c Γ2 μ2 fun k μ3 => (k = true → ∀ s0 H0 C cl fp, wE B (bk X scope s0 H0 C cl fp) elt Γ2 μ3 fun z μ4 => J (i + 1) (acc ++ [z]) μ4) ∧ (k = false → J (i + 1) acc μ3)
    | _ => False
def lcAsk (B : Bs) (X : Cx) (scope : Scope) (tg iter elt : Expr) (ifs : List Expr) (vs : List Nat) (Γ : G) (μ : Mu) (Q : A → Mu → Prop) : Prop :=
  wIt B X tg iter Γ μ fun ys μ1 => ys.length ≤ sizeLine ∧ ∃ J : Nat → List A → Mu → Prop, J 0 [] μ1 ∧ lcTurns B X scope tg elt ifs vs Γ ys J ∧ ∀ acc μ', J ys.length acc μ' → ∀ p, μ' p = none → Q (.loc p) (μ'.upd p (.lst acc))
def bkG (X : Cx) (scope : Scope) (tg : Expr) : TG := fun v σ H Q => ∀ s0 H0 C cl fp, rdG (bk X scope s0 H0 C cl fp) tg v σ H Q
def bkE (X : Cx) (scope : Scope) (e : Expr) : TE := fun σ H Q => ∀ s0 H0 C cl fp, rdE (bk X scope s0 H0 C cl fp) e σ H Q
def bkT (X : Cx) (scope : Scope) (ifs : List Expr) : TT := match ifs with
  | [c] => fun σ H Q => ∀ s0 H0 C cl fp, rdT (bk X scope s0 H0 C cl fp) c σ H Q
  | _ => tYes
theorem lc_core_ask {ifs : List Expr} (hi : ifs = [] ∨ ∃ c, ifs = [c]) (h : lcAsk B X scope tg iter elt ifs (own.map (·.2)) Γ μ Q) {σ : L2.St} {M F H : Hp} (bo : B.ok M F) (rs : RelS X.K Γ F σ) (r : Rel X.K μ M F H) :
    tLc (rdI X tg iter) (bkG X scope tg) (bkT X scope ifs) (bkE X scope elt) (own.map (·.2)) σ H (QE X.K M F Q) := by
  generalize hvs : own.map (·.2) = vs at h
  refine ⟨fun pins s I0 => ?_⟩
  refine thn ((h σ M F H bo rs r).o pins s I0) fun v s1 h1 => thn h1 fun itv s2 h2 => ?_
  obtain ⟨it, fp, tn, J0, H2, g1, g2, g3, g4, g5, ys, F1, μ1, e1, r1, wk, hz, J, j0, turn, done⟩ := h2
  refine ⟨it, fp, tn, J0, H2, g1, g2, g3, g4, g5, fun p np => ?_⟩
  obtain ⟨hM, rN⟩ := r1.frmNew (o := .lst []) np
  refine ⟨fun i m H' => m = ys.length - i ∧ i ≤ ys.length ∧ ∃ F' μ' acc ws, Ex F1 F' ∧ Rel X.K μ' (upd M p (.lst ws)) F' H' ∧ RepL X.K F' acc ws ∧ acc.length ≤ i ∧ J i acc μ', ⟨ys.length, by simp, Nat.zero_le _, F1, μ1, [], [], .refl _, rN, .nil, Nat.le_refl _, j0⟩, ?_⟩
  rintro i m H' ⟨rfl, hi', F', μ', acc, ws, e2, r2, ra, hl, q⟩
  have rs' : RelS X.K (wipeA Γ vs) F' (wipe σ vs) := (wipeA_rel rs vs).mono (e1.trans e2)
  have bo' : B.ok (upd M p (.lst ws)) F' := (bo.up (.new hM)).mono (e1.trans e2)
  by_cases lt : i < ys.length
  · refine .inr ⟨wk.goes i H' lt (e2.trans r2.sub), fun H3 => ∃ F' μ' acc ws, Ex F1 F' ∧ Rel X.K μ' (upd M p (.lst ws)) F' H3 ∧ RepL X.K F' acc ws ∧ acc.length ≤ i + 1 ∧ J (i + 1) acc μ', fun H3 q3 => ⟨ys.length - (i + 1), by omega, rfl, lt, q3⟩, fun x H3 yl => ?_⟩
    obtain ⟨F2, y, e3, r3, hy, rp⟩ := wk.yields i H' x H3 _ F' μ' lt e2 r2 yl
    intro s0 H0 C cl fp'
    refine (turn i y acc μ' hy q s0 H0 C cl fp' (wipe σ vs) _ F2 H3 x (bo'.mono e3) (rs'.mono e3) r3 rp).imp fun σ4 H4 q4 => ?_
    obtain ⟨w4, Γ4, F4, μ4, e4, rs4, r4, q4⟩ := q4
    rw [hvs] at *
    have w5 : wipe σ4 vs = wipe σ vs := w4.trans (wipe_wipe vs fun _ h => h)
    refine ⟨w5, ?_⟩
    have elem : ∀ {F5 : Hp} {μ5 : Mu} {H5 : Hp}, Ex F4 F5 → Rel X.K μ5 (upd M p (.lst ws)) F5 H5 → (∀ s0 H0 C cl fp, wE B (bk X scope s0 H0 C cl fp) elt Γ4 μ5 fun z μ6 => J (i + 1) (acc ++ [z]) μ6) →
        bkE X scope elt σ4 H5 fun y H6 => ∃ acc', H6 p = some (.lst acc') ∧ acc'.length < sizeLine ∧ ∃ F' μ' acc ws, Ex F1 F' ∧ Rel X.K μ' (upd M p (.lst ws)) F' (upd H6 p (.lst (acc' ++ [y]))) ∧ RepL X.K F' acc ws ∧ acc.length ≤ i + 1 ∧ J (i + 1) acc μ' := by
      intro F5 μ5 H5 e5 r5 hE s0 H0 C cl fp6
      refine (hE s0 H0 C cl fp6 σ4 _ F5 H5 (bo'.mono ((e3.trans e4).trans e5)) (rs4.mono e5) r5).imp fun z6 H6 ⟨z, F6, μ6, e6, r6, p6, q6⟩ => ?_
      obtain ⟨_, _, hp6⟩ := r6.frm p _ upd_same
      have ex := ((e3.trans e4).trans e5).trans e6
      refine ⟨ws, hp6, by rw [ra.len]; omega, F6, μ6, acc ++ [z], ws ++ [z6], e2.trans ex, r6.frmWrite, (ra.mono ex).snoc p6, by simp; omega, q6⟩
    rcases hi with rfl | ⟨c, rfl⟩
    · have k := elem (.refl _) r4 q4
      simp only [bkT, tYes, if_true]
      exact k
    · intro s0 H0 C cl fp6
      refine (q4 s0 H0 C cl fp6 σ4 _ F4 H4 (bo'.mono (e3.trans e4)) rs4 r4).imp fun k H5 ⟨F5, μ5, e5, r5, k1, k2⟩ => ?_
      cases k with
      | true => exact iteT (elem e5 r5 (k1 rfl))
      | false => exact iteF ⟨F5, μ5, acc, ws, (e2.trans (e3.trans e4)).trans e5, r5, ra.mono ((e3.trans e4).trans e5), by omega, k2 rfl⟩
  · obtain rfl : i = ys.length := by omega
    obtain ⟨nμ, rO⟩ := r2.frmOut (m := .lst acc) hM ⟨ws, rfl, ra⟩
    exact .inl ⟨wk.stops H' (e2.trans r2.sub), .loc p, F', _, e1.trans e2, rO, rep_loc.mpr rfl, done acc μ' q p nμ⟩
end
end D

namespace D
open PySem PySem.Spec PyProof.Rows L2
section
variable {B : Bs} {X : Cx} {Γ : G} {μ : Mu} {Q : A → Mu → Prop} {Z : AD} {e o i : Expr} {pos apos cpos : Pos}
variable {elt tg iter c : Expr} {scope : Scope} {own : List (Str × Nat)} {ifs : List Expr}
theorem bk_pts (hi : ifs = [] ∨ ∃ c, ifs = [c]) : ∀ (s0 : Shared) (H0 : Hp) (C : Addr) (cl : List (Str × Addr)) (fp : List Addr), PTs (X.blk s0 H0 scope (compEnvC scope cl C X.env) fp) ifs (bkT X scope ifs) := by
  rcases hi with rfl | ⟨c, rfl⟩
  · exact fun _ _ _ _ _ => pts_nil
  · exact fun s0 H0 C cl fp => pts_one ⟨fun pins s σ H Q I h => (h s0 H0 C cl fp).o pins s I⟩
theorem bkG_pg (s0 : Shared) (H0 : Hp) (C : Addr) (cl : List (Str × Addr)) (fp : List Addr) : PG (X.blk s0 H0 scope (compEnvC scope cl C X.env) fp) tg (bkG X scope tg) := ⟨fun pins s _ _ _ u _ I r h => (h s0 H0 C cl fp).o pins s u I r⟩
theorem bkE_pe (s0 : Shared) (H0 : Hp) (C : Addr) (cl : List (Str × Addr)) (fp : List Addr) : PE (X.blk s0 H0 scope (compEnvC scope cl C X.env) fp) elt (bkE X scope elt) := ⟨fun pins s _ _ _ I h => (h s0 H0 C cl fp).o pins s I⟩
theorem wE_lc (own : List (Str × Nat)) (h : lcAsk B X scope tg iter elt ifs (own.map (·.2)) Γ μ Q) (hN : X.N.Nodup) (ok : BlkOk X.N X.env.scope scope own) (hi : ifs = [] ∨ ∃ c, ifs = [c] := by first | exact .inl rfl | exact .inr ⟨_, rfl⟩) (hc : X.calm = true := by rfl) (hs : ∀ x, foldedSetIterable iter X.env x = pure x := by intro _; rfl) :
    wE B X (.ListComp elt [⟨tg, iter, ifs, 0⟩] scope pos) Γ μ Q :=
  wE_of (pe_lc (own := own) hc hN pi_rd ok (fun s0 H0 C cl fp => bkG_pg s0 H0 C cl fp) (bk_pts hi) (fun s0 H0 C cl fp => bkE_pe s0 H0 C cl fp) hs) fun σ M F H bo rs r => lc_core_ask hi h bo rs r
theorem wS_setLc (own : List (Str × Nat)) (i : Nat) {y : Str} {py spos : Pos} (h : lcAsk B X scope tg iter elt ifs (own.map (·.2)) Γ μ fun z μ1 => Z.nx (Γ.set i (some z)) μ1) (hN : X.N.Nodup) (ok : BlkOk X.N X.env.scope scope own)
    (hsw : swapsWith (.ListComp elt [⟨tg, iter, ifs, 0⟩] scope pos) (some (.Name y py)) spos.line X.env = pure true)
    (hi : ifs = [] ∨ ∃ c, ifs = [c] := by first | exact .inl rfl | exact .inr ⟨_, rfl⟩) (hc : X.calm = true := by rfl) (hy : X.N[i]? = some y := by rfl) (hyl : X.env.scope.names.lookup y = some .local := by rfl) (hs : ∀ x, foldedSetIterable iter X.env x = pure x := by intro _; rfl) :
    wS B X (.Assign [.Name y py] (.ListComp elt [⟨tg, iter, ifs, 0⟩] scope pos) spos) Γ μ Z :=
  wS_of (ps_setLc (own := own) hc hN hy hyl hsw pi_rd ok (fun s0 H0 C cl fp => bkG_pg s0 H0 C cl fp) (bk_pts hi) (fun s0 H0 C cl fp => bkE_pe s0 H0 C cl fp) hs) fun σ M F H bo rs r => by
  have k := lc_core_ask hi h bo rs r
  obtain ⟨K0⟩ : Nonempty Unit := ⟨()⟩
  refine ⟨fun pins s I => ?_⟩
  refine thn (k.o pins s I) fun v s1 h1 => thn h1 fun itv s2 h2 => ?_
  obtain ⟨it, fp, tn, J0, H2, g1, g2, g3, g4, g5, q⟩ := h2
  refine ⟨it, fp, tn, J0, H2, g1, g2, g3, g4, g5, fun p np => ?_⟩
  obtain ⟨W, w0, turn⟩ := q p np
  refine ⟨W, w0, fun i' m H' w => ?_⟩
  rcases turn i' m H' w with ⟨st, q⟩ | q
  · refine .inl ⟨st, ?_⟩
    obtain ⟨x, F', μ', ex, rl, rp, q⟩ := q
    exact ⟨_, F', μ', ex, (rs.mono ex).set rp, rl, q⟩
  · exact .inr q

def Sub (μ μ' : Mu) : Prop := ∀ p m, μ p = some m → μ' p = some m
theorem Sub.refl (μ : Mu) : Sub μ μ := fun _ _ h => h
theorem Sub.trans {μ μ1 μ2 : Mu} (a : Sub μ μ1) (b : Sub μ1 μ2) : Sub μ μ2 := fun p m h => b p m (a p m h)
theorem Sub.new {μ : Mu} {p : Addr} {m : MO} (h : μ p = none) : Sub μ (μ.upd p m) := fun q n e => by
  have hq : q ≠ p := fun z => by rw [z, h] at e; cases e
  rw [Mu.upd_ne hq]; exact e
theorem Sub.none {μ μ' : Mu} {p : Addr} (a : Sub μ μ') (h : μ' p = Option.none) : μ p = Option.none := by
  cases q : μ p with
  | none => rfl
  | some m => rw [a p m q] at h; cases h
theorem wE_sub (h : wE B X e Γ μ fun x μ' => ∃ μ2, Sub μ2 μ' ∧ Q x μ2) : wE B X e Γ μ Q := fun σ M F H bo rs r =>
  (h σ M F H bo rs r).imp fun v H' ⟨x, F', μ', h1, h2, h3, μ2, h4, h5⟩ => ⟨x, F', μ2, h1, h2.weak h4, h3, h5⟩
def vE (B : Bs) (X : Cx) (e : Expr) (Γ : G) (μ : Mu) (z : A) : Prop := wE B X e Γ μ fun z' μ' => z' = z ∧ Sub μ μ'
theorem vE.use {z : A} (h : vE B X e Γ μ z) (q : Q z μ) : wE B X e Γ μ Q := wE_sub (wE.imp h fun x μ' ⟨e1, s1⟩ => ⟨μ, s1, by rw [e1]; exact q⟩)
theorem lcMap {vs : List Nat} (h : wIt B X tg iter Γ μ fun ys μ1 => ys.length ≤ sizeLine ∧ ∃ zs : List A, zs.length = ys.length ∧
      (∀ (i : Nat) y z, ys[i]? = some y → zs[i]? = some z → ∀ s0 H0 C cl fp, wGw B (bk X scope s0 H0 C cl fp) tg vs y (wipeA Γ vs) μ1 fun Γ2 μ2 => μ2 = μ1 ∧ ∀ s0 H0 C cl fp, vE B (bk X scope s0 H0 C cl fp) elt Γ2 μ1 z) ∧
      ∀ p : Addr, μ1 p = none → Q (.loc p) (μ1.upd p (.lst zs))) : lcAsk B X scope tg iter elt [] vs Γ μ Q := fun σ M F H bo rs r => by
  refine ⟨fun pins s I => ?_⟩
  refine thn ((h σ M F H bo rs r).o pins s I) fun v s1 h1 => thn h1 fun itv s2 h2 => ?_
  obtain ⟨it, fp, tn, J0, H2, g1, g2, g3, g4, g5, ys, F1, μ1, e1, r1, wk, hz, zs, hl, turn, done⟩ := h2
  refine ⟨it, fp, tn, J0, H2, g1, g2, g3, g4, g5, ys, F1, μ1, e1, r1, wk, hz, fun i acc μ' => acc = zs.take i ∧ μ' = μ1, ⟨by simp, rfl⟩, ?_, ?_⟩
  · rintro i y acc _ hy ⟨ea, rfl⟩ s0 H0 C cl fp'
    have hi : i < zs.length := by rw [hl]; exact (List.getElem?_eq_some_iff.mp hy).1
    have t := turn i y zs[i] hy (List.getElem?_eq_getElem hi) s0 H0 C cl fp'
    intro σ3 M3 F3 H3 v3 bo3 rs3 r3 rp3
    refine (t σ3 M3 F3 H3 v3 bo3 rs3 r3 rp3).imp fun σ4 H4 ⟨w4, Γ4, F4, μ4, e4, rs4, r4, em, q4⟩ => ⟨w4, Γ4, F4, μ4, e4, rs4, r4, ?_⟩
    subst em
    intro s0 H0 C cl fp6
    refine (q4 s0 H0 C cl fp6).use ⟨?_, rfl⟩
    rw [ea, List.take_succ, List.getElem?_eq_getElem hi]; rfl
  · rintro acc _ ⟨ea, rfl⟩ p np
    rw [ea, ← hl, List.take_length]
    exact done p np
def pickA : List Bool → List A → List A
  | k :: ks, z :: zs => if k then z :: pickA ks zs else pickA ks zs
  | _, _ => []
theorem pickA_snoc : ∀ (ks : List Bool) (zs : List A) (k : Bool) (z : A), ks.length = zs.length → pickA (ks ++ [k]) (zs ++ [z]) = pickA ks zs ++ (if k then [z] else [])
  | [], [], k, z, _ => by cases k <;> simp [pickA]
  | k' :: ks, z' :: zs, k, z, h => by
    have ih := pickA_snoc ks zs k z (by simpa using h)
    simp only [List.cons_append, pickA, ih]
    cases k' <;> simp
  | [], _ :: _, _, _, h => by simp at h
  | _ :: _, [], _, _, h => by simp at h
theorem pickA_map {α : Type} (p : α → Bool) (f : α → A) : ∀ l : List α, pickA (l.map p) (l.map f) = (l.filter p).map f
  | [] => rfl
  | a :: l => by
    simp only [List.map_cons, pickA, pickA_map p f l, List.filter_cons]
    cases p a <;> simp
def vT (B : Bs) (X : Cx) (e : Expr) (Γ : G) (μ : Mu) (k : Bool) : Prop := wT B X e Γ μ fun k' μ' => k' = k ∧ Sub μ μ'
theorem wT_sub {QB : Bool → Mu → Prop} (h : wT B X e Γ μ fun x μ' => ∃ μ2, Sub μ2 μ' ∧ QB x μ2) : wT B X e Γ μ QB := fun σ M F H bo rs r =>
  (h σ M F H bo rs r).imp fun v H' ⟨F', μ', h1, h2, μ2, h4, h5⟩ => ⟨F', μ2, h1, h2.weak h4, h5⟩
theorem vT.use {k : Bool} {QB : Bool → Mu → Prop} (h : vT B X e Γ μ k) (q : QB k μ) : wT B X e Γ μ QB := wT_sub (wT.imp h fun x μ' ⟨e1, s1⟩ => ⟨μ, s1, by rw [e1]; exact q⟩)
theorem lcPick {vs : List Nat} (h : wIt B X tg iter Γ μ fun ys μ1 => ys.length ≤ sizeLine ∧ ∃ (ks : List Bool) (zs : List A), ks.length = ys.length ∧ zs.length = ys.length ∧
      (∀ (i : Nat) y k z, ys[i]? = some y → ks[i]? = some k → zs[i]? = some z → ∀ s0 H0 C cl fp, wGw B (bk X scope s0 H0 C cl fp) tg vs y (wipeA Γ vs) μ1 fun Γ2 μ2 => μ2 = μ1 ∧ (∀ s0 H0 C cl fp, vT B (bk X scope s0 H0 C cl fp) c Γ2 μ1 k) ∧ (k = true → ∀ s0 H0 C cl fp, vE B (bk X scope s0 H0 C cl fp) elt Γ2 μ1 z)) ∧
      ∀ p : Addr, μ1 p = none → Q (.loc p) (μ1.upd p (.lst (pickA ks zs)))) : lcAsk B X scope tg iter elt [c] vs Γ μ Q := fun σ M F H bo rs r => by
  refine ⟨fun pins s I => ?_⟩
  refine thn ((h σ M F H bo rs r).o pins s I) fun v s1 h1 => thn h1 fun itv s2 h2 => ?_
  obtain ⟨it, fp, tn, J0, H2, g1, g2, g3, g4, g5, ys, F1, μ1, e1, r1, wk, hz, ks, zs, hk, hl, turn, done⟩ := h2
  refine ⟨it, fp, tn, J0, H2, g1, g2, g3, g4, g5, ys, F1, μ1, e1, r1, wk, hz, fun i acc μ' => acc = pickA (ks.take i) (zs.take i) ∧ μ' = μ1, ⟨by simp [pickA], rfl⟩, ?_, ?_⟩
  · rintro i y acc _ hy ⟨ea, rfl⟩ s0 H0 C cl fp'
    have hy' := (List.getElem?_eq_some_iff.mp hy).1
    have hi : i < zs.length := by rw [hl]; exact hy'
    have hi' : i < ks.length := by rw [hk]; exact hy'
    have t := turn i y ks[i] zs[i] hy (List.getElem?_eq_getElem hi') (List.getElem?_eq_getElem hi) s0 H0 C cl fp'
    have en : pickA (ks.take (i + 1)) (zs.take (i + 1)) = acc ++ (if ks[i] then [zs[i]] else []) := by
      rw [ea, List.take_succ, List.take_succ, List.getElem?_eq_getElem hi, List.getElem?_eq_getElem hi']
      exact pickA_snoc _ _ _ _ (by simp; omega)
    intro σ3 M3 F3 H3 v3 bo3 rs3 r3 rp3
    refine (t σ3 M3 F3 H3 v3 bo3 rs3 r3 rp3).imp fun σ4 H4 ⟨w4, Γ4, F4, μ4, e4, rs4, r4, em, q4, q5⟩ => ⟨w4, Γ4, F4, μ4, e4, rs4, r4, ?_⟩
    subst em
    intro s0 H0 C cl fp6
    refine (q4 s0 H0 C cl fp6).use ⟨fun kt s0 H0 C cl fp7 => (q5 kt s0 H0 C cl fp7).use ⟨?_, rfl⟩, fun kf => ⟨?_, rfl⟩⟩
    · rw [en, kt]; rfl
    · rw [en, kf]; simp
  · rintro acc _ ⟨ea, rfl⟩ p np
    rw [ea, ← hl, List.take_length, hl, ← hk, List.take_length]
    exact done p np

theorem wE_append (h : wE B X o Γ μ fun x μ1 => ∃ p ys0, x = .loc p ∧ μ1 p = some (.lst ys0) ∧ wE B X e Γ μ1 fun y μ2 => ∃ ys, μ2 p = some (.lst ys) ∧ ys.length < sizeLine ∧ Q .non (μ2.upd p (.lst (ys ++ [y]))))
    (hbase : attributeBase o "append" X.env (eval o X.env) = eval o X.env := by rfl)
    (hfew : ((backTo cpos (starEach [e] X.env)).all (fun x => !x.1) && (backToKw cpos (keywordEach [] X.env)).all (fun x => x.1.isSome) && decide (([e] : List Expr).length + ([] : List Keyword).length + (if ([] : List Keyword).isEmpty then 0 else 1) < 30)) = true := by rfl)
    (hline : (apos.endLine == cpos.line) = true := by rfl) (hs : starEach [e] X.env = (false, eval e X.env) :: starEach [] X.env := by rfl) (hplain : (backTo cpos (starEach [] X.env)).any (·.1) = false := by rfl) : wE B X (.Call (.Attribute o "append" apos) [e] [] cpos) Γ μ Q :=
  wE_of (pe_bm PySem.F.plainAttrs_list PySem.F.slot_list_append PySem.F.type_list_append mt_append pe_rd (pa_cons pe_rd pa_nil hs) hbase hfew hline hs hplain) fun σ M F H bo rs r => by
  refine (h σ M F H bo rs r).imp fun v H1 ⟨x, F1, μ1, e1, r1, p1, p, ys0, ex, hp, q1⟩ => ?_
  subst ex; rw [rep_loc] at p1
  obtain ⟨_, ob, k1, vs, rfl, k2⟩ := r1.own p _ hp
  refine ⟨by rw [p1]; exact .inl ⟨rfl, _, .inl (.inl k1)⟩, ?_⟩
  refine (q1 σ M F1 H1 (bo.mono e1) (rs.mono e1) r1).imp fun w H2 ⟨y, F2, μ2, e2, r2, p2, ys, hq, hz, q2⟩ => ?_
  obtain ⟨_, ob, k3, ws, rfl, k4⟩ := r2.own p _ hq
  exact ⟨p, ws, w, p1, rfl, k3, by rw [k4.len]; exact hz, _, F2, _, e1.trans e2, r2.write hq (m' := .lst (ys ++ [y])) ⟨_, rfl, k4.snoc p2⟩, rep_non.mpr rfl, q2⟩

def kA : Key → A
  | .inl i => .int i
  | .inr x => .str x
theorem kA_rep {K : PySem.W.Frag} {F : Hp} {k : Key} {v : V} (h : Rep K F (kA k) v) : v = kV k := by
  cases k with
  | inl i => exact rep_int.mp h
  | inr x => exact rep_str.mp h
def valA (kvs : List (Key × A)) (k : Key) : Option A := (kvs.find? fun kv => decide (kv.1 = k)).map (·.2)
def putA (kvs : List (Key × A)) (k : Key) (v : A) : List (Key × A) := if (kvs.any fun kv => decide (kv.1 = k)) = true then kvs.map (fun kv => if kv.1 = k then (kv.1, v) else kv) else kvs ++ [(k, v)]
theorem valA_rep {K : PySem.W.Frag} {F : Hp} : ∀ {kvs : List (Key × A)} {ws : List (Key × V)} (k : Key), RepK K F kvs ws → (valA kvs k = none ∧ valV ws k = none) ∨ ∃ z v, valA kvs k = some z ∧ valV ws k = some v ∧ Rep K F z v
  | [], _, k, h => by rw [show _ = [] from h]; exact .inl ⟨rfl, rfl⟩
  | (k', x) :: r, _, k, ⟨v, t, e, h1, h2⟩ => by
    subst e
    by_cases ek : k' = k
    · exact .inr ⟨x, v, by simp [valA, ek], by simp [valV, ek], h1⟩
    · rcases valA_rep k h2 with h | ⟨z, w, h3, h4, h5⟩
      · refine .inl ⟨?_, ?_⟩
        · have := h.1; simp only [valA, List.find?_cons, ek, decide_false] at this ⊢; exact this
        · have := h.2; simp only [valV, List.find?_cons, ek, decide_false] at this ⊢; exact this
      · refine .inr ⟨z, w, ?_, ?_, h5⟩
        · simp only [valA, List.find?_cons, ek, decide_false] at h3 ⊢; exact h3
        · simp only [valV, List.find?_cons, ek, decide_false] at h4 ⊢; exact h4
theorem any_rep {K : PySem.W.Frag} {F : Hp} (k : Key) : ∀ {kvs : List (Key × A)} {ws : List (Key × V)}, RepK K F kvs ws → (ws.any fun kv => decide (kv.1 = k)) = kvs.any fun kv => decide (kv.1 = k)
  | [], _, h => by rw [show _ = [] from h]; rfl
  | (k', x) :: r, _, ⟨v, t, e, h1, h2⟩ => by subst e; simp only [List.any_cons, any_rep k h2]
theorem mapK_rep {K : PySem.W.Frag} {F : Hp} {k : Key} {z : A} {w : V} (g : Rep K F z w) : ∀ {kvs : List (Key × A)} {ws : List (Key × V)}, RepK K F kvs ws → RepK K F (kvs.map fun kv => if kv.1 = k then (kv.1, z) else kv) (ws.map fun kv => if kv.1 = k then (kv.1, w) else kv)
  | [], _, h => by rw [show _ = [] from h]; rfl
  | (k', x) :: r, _, ⟨v, t, e, h1, h2⟩ => by
    subst e
    simp only [List.map_cons]
    by_cases ek : k' = k
    · rw [if_pos ek, if_pos ek]; exact ⟨w, _, rfl, g, mapK_rep g h2⟩
    · rw [if_neg ek, if_neg ek]; exact ⟨v, _, rfl, h1, mapK_rep g h2⟩
theorem snocK_rep {K : PySem.W.Frag} {F : Hp} {k : Key} {z : A} {w : V} (g : Rep K F z w) : ∀ {kvs : List (Key × A)} {ws : List (Key × V)}, RepK K F kvs ws → RepK K F (kvs ++ [(k, z)]) (ws ++ [(k, w)])
  | [], _, h => by rw [show _ = [] from h]; exact ⟨w, [], rfl, g, rfl⟩
  | (k', x) :: r, _, ⟨v, t, e, h1, h2⟩ => by subst e; exact ⟨v, _, rfl, h1, snocK_rep g h2⟩
theorem putA_rep {K : PySem.W.Frag} {F : Hp} {k : Key} {z : A} {w : V} (g : Rep K F z w) {kvs : List (Key × A)} {ws : List (Key × V)} (h : RepK K F kvs ws) : RepK K F (putA kvs k z) (putK ws k w) := by
  unfold putA putK
  rw [any_rep k h]
  split
  · exact mapK_rep g h
  · exact snocK_rep g h
theorem wE_dget {k : Nat} (ar : Ar X k) (h : wE B X o Γ μ fun x μ1 => wE B X i Γ μ1 fun y μ2 => ∃ p kvs k z, x = .loc p ∧ μ2 p = some (.dic kvs) ∧ y = kA k ∧ valA kvs k = some z ∧ Q z μ2) (hs : NoSl i := by exact fun _ _ => rfl) : wE B X (.Subscript o i pos) Γ μ Q :=
  wE_of (pe_dget ar.u1 pe_rd pe_rd hs) fun σ M F H bo rs r => by
  refine (h σ M F H bo rs r).imp fun v H1 ⟨x, F1, μ1, e1, r1, p1, q1⟩ => ?_
  refine (q1 σ M F1 H1 (bo.mono e1) (rs.mono e1) r1).imp fun w H2 ⟨y, F2, μ2, e2, r2, p2, p, kvs, k, z, ex, hp, ey, hv, q2⟩ => ?_
  subst ex; subst ey
  rw [rep_loc] at p1
  obtain ⟨_, ob, k1, ws, rfl, k2⟩ := r2.own p _ hp
  rcases valA_rep k k2 with ⟨h1, _⟩ | ⟨z', v', h1, h2, h3⟩
  · rw [h1] at hv; cases hv
  · rw [hv] at h1; cases h1
    refine ⟨p, v', p1, ?_, z, F2, μ2, e1.trans e2, r2, h3, q2⟩
    rw [kA_rep p2, ← h2]
    exact DGet.k k1
theorem wS_dput {k : Nat} {pos' : Pos} (ar : Ar X k) (h : wE B X e Γ μ fun z μ1 => wE B X o Γ μ1 fun x μ2 => wE B X i Γ μ2 fun y μ3 => ∃ p kvs k, x = .loc p ∧ μ3 p = some (.dic kvs) ∧ y = kA k ∧ kvs.length < sizeLine ∧ Z.nx Γ (μ3.upd p (.dic (putA kvs k z))))
    (hs : swapsWith e (some (.Subscript o i pos')) pos.line X.env = pure false := by rfl) : wS B X (.Assign [.Subscript o i pos'] e pos) Γ μ Z := wS_of (ps_dput ar.u1 pe_rd pe_rd pe_rd hs) fun σ M F H bo rs r => by
  refine (h σ M F H bo rs r).imp fun u H0 ⟨z, F0, μ0, e0, r0, p0, q0⟩ => ?_
  refine (q0 σ M F0 H0 (bo.mono e0) (rs.mono e0) r0).imp fun v H1 ⟨x, F1, μ1, e1, r1, p1, q1⟩ => ?_
  refine (q1 σ M F1 H1 (bo.mono (e0.trans e1)) (rs.mono (e0.trans e1)) r1).imp fun w H2 ⟨y, F2, μ2, e2, r2, p2, p, kvs, k, ex, hp, ey, hl, q2⟩ => ?_
  subst ex; subst ey
  rw [rep_loc] at p1
  obtain ⟨_, ob, k1, ws, rfl, k2⟩ := r2.own p _ hp
  refine ⟨p, upd H2 p (.dK (putK ws k u)), p1, ?_, Γ, F2, _, (e0.trans e1).trans e2, rs.mono ((e0.trans e1).trans e2), r2.write hp (m' := .dic (putA kvs k z)) ⟨_, rfl, putA_rep (p0.mono (e1.trans e2)) k2⟩, q2⟩
  rw [kA_rep p2]
  exact DPut.k k1 (by rw [k2.len]; exact hl)
theorem wE_dnew (q : ∀ p, μ p = none → Q (.loc p) (μ.upd p (.dic []))) : wE B X (.Dict [] [] pos) Γ μ Q := wE_of pe_dnewK fun σ M F H bo rs r p np => by
  obtain ⟨nμ, rl'⟩ := r.new (m := .dic []) (o := .dK []) np ⟨[], rfl, rfl⟩
  exact ⟨_, _, _, .refl _, rl', rep_loc.mpr rfl, q p nμ⟩
end
end D

namespace D
open PySem PySem.Spec PyProof.Rows L2
section
variable {B : Bs} {X : Cx} {Γ : G} {μ : Mu} {Q : A → Mu → Prop} {Z : AD} {e o i : Expr} {pos apos cpos : Pos}
def rdPs (X : Cx) : List (Option Expr) → List Expr → List (TE × TE)
  | some k :: ks, v :: vs => (rdE X k, rdE X v) :: rdPs X ks vs
  | _, _ => []
def okPs : List (Option Expr) → List Expr → Bool
  | [], [] => true
  | some _ :: ks, _ :: vs => okPs ks vs
  | _, _ => false
theorem pps_rd : ∀ {ks : List (Option Expr)} {vs : List Expr}, okPs ks vs = true → PPs X pos ks vs (rdPs X ks vs)
  | [], [], _ => pps_nil
  | some _ :: _, _ :: _, h => pps_cons pe_rd pe_rd (pps_rd (by simpa [okPs] using h))
  | [], _ :: _, h => by simp [okPs] at h
  | none :: _, _, h => by simp [okPs] at h
  | some _ :: _, [], h => by simp [okPs] at h
def wPs (B : Bs) (X : Cx) : List (Option Expr) → List Expr → G → Mu → (List (A × A) → Mu → Prop) → Prop
  | some k :: ks, v :: vs, Γ, μ, R => wE B X k Γ μ fun x μ1 => wE B X v Γ μ1 fun y μ2 => wPs B X ks vs Γ μ2 fun ps μ3 => R ((x, y) :: ps) μ3
  | _, _, _, μ, R => R [] μ
def RepP (K : PySem.W.Frag) (F : Hp) : List (A × A) → List (V × V) → Prop
  | [], vs => vs = []
  | (x, y) :: r, vs => ∃ v w t, vs = (v, w) :: t ∧ Rep K F x v ∧ Rep K F y w ∧ RepP K F r t
theorem RepP.mono {K : PySem.W.Frag} {F F' : Hp} (e : Ex F F') : ∀ {ps : List (A × A)} {vs : List (V × V)}, RepP K F ps vs → RepP K F' ps vs
  | [], _, h => h
  | (x, y) :: r, _, ⟨v, w, t, h1, h2, h3, h4⟩ => ⟨v, w, t, h1, h2.mono e, h3.mono e, RepP.mono e h4⟩
theorem pairs_run {M : Hp} : ∀ {ks : List (Option Expr)} {vs : List Expr} {μ : Mu} {R : List (A × A) → Mu → Prop} {σ : L2.St} {F H : Hp}, wPs B X ks vs Γ μ R → B.ok M F → RelS X.K Γ F σ → Rel X.K μ M F H → tPairs (rdPs X ks vs) σ H fun ps H' => ∃ qs F' μ', Ex F F' ∧ Rel X.K μ' M F' H' ∧ RepP X.K F' qs ps ∧ R qs μ'
  | [], [], μ, R, σ, F, H, h, bo, rs, r => ⟨[], F, μ, .refl _, r, rfl, h⟩
  | [], _ :: _, μ, R, σ, F, H, h, bo, rs, r => ⟨[], F, μ, .refl _, r, rfl, h⟩
  | none :: _, _, μ, R, σ, F, H, h, bo, rs, r => ⟨[], F, μ, .refl _, r, rfl, h⟩
  | some _ :: _, [], μ, R, σ, F, H, h, bo, rs, r => ⟨[], F, μ, .refl _, r, rfl, h⟩
  | some k :: ks, v :: vs, μ, R, σ, F, H, h, bo, rs, r => by
    refine (show wE B X k Γ μ _ from h) σ M F H bo rs r |>.imp fun a H1 ⟨x, F1, μ1, e1, r1, p1, q1⟩ => ?_
    refine (q1 σ M F1 H1 (bo.mono e1) (rs.mono e1) r1).imp fun b H2 ⟨y, F2, μ2, e2, r2, p2, q2⟩ => ?_
    have k := pairs_run q2 (bo.mono (e1.trans e2)) (rs.mono (e1.trans e2)) r2
    have mono : ∀ (trs : List (TE × TE)), (∀ p ∈ trs, ∃ e1 e2, p = (rdE X e1, rdE X e2)) → ∀ (σ : L2.St) (H : Hp) (P P' : List (V × V) → Hp → Prop), (∀ ps H, P ps H → P' ps H) → tPairs trs σ H P → tPairs trs σ H P' := by
      intro trs
      induction trs with
      | nil => intro _ σ H P P' w h; exact w _ _ h
      | cons p r ih =>
        intro hp σ H P P' w h
        obtain ⟨a1, a2, rfl⟩ := hp _ List.mem_cons_self
        exact rdE_mono h fun x H1 h1 => rdE_mono h1 fun y H2 h2 => ih (fun q hq => hp q (List.mem_cons_of_mem _ hq)) σ H2 _ _ (fun ps H3 q => w _ _ q) h2
    have shape : ∀ (ks : List (Option Expr)) (vs : List Expr), ∀ p ∈ rdPs X ks vs, ∃ e1 e2, p = (rdE X e1, rdE X e2) := by
      intro ks
      induction ks with
      | nil => intro vs p hp; simp [rdPs] at hp
      | cons k ks ih =>
        intro vs p hp
        cases k with
        | none => simp [rdPs] at hp
        | some k => cases vs with
          | nil => simp [rdPs] at hp
          | cons v vs =>
            simp only [rdPs, List.mem_cons] at hp
            rcases hp with rfl | hp
            · exact ⟨_, _, rfl⟩
            · exact ih vs p hp
    refine mono _ (shape ks vs) _ _ _ _ (fun ps H3 q => ?_) k
    obtain ⟨qs, F3, μ3, e3, r3, p3, q3⟩ := q
    exact ⟨(x, y) :: qs, F3, μ3, (e1.trans e2).trans e3, r3, ⟨a, b, ps, rfl, p1.mono (e2.trans e3), p2.mono e3, p3⟩, q3⟩
def mergeA (kvs more : List (Key × A)) : List (Key × A) := more.foldl (fun acc kv => putA acc kv.1 kv.2) kvs
theorem merge_rep {K : PySem.W.Frag} {F : Hp} : ∀ {more : List (Key × A)} {ms : List (Key × V)} {kvs : List (Key × A)} {ws : List (Key × V)}, RepK K F more ms → RepK K F kvs ws → RepK K F (mergeA kvs more) (mergeK ws ms)
  | [], _, _, _, h, g => by rw [show _ = [] from h]; exact g
  | (k, x) :: r, _, kvs, ws, ⟨v, t, e, h1, h2⟩, g => by subst e; exact merge_rep (kvs := putA kvs k x) (ws := putK ws k v) h2 (putA_rep h1 g)
theorem keys_rep {K : PySem.W.Frag} {F : Hp} : ∀ {kvs : List (Key × A)} {ps : List (V × V)}, RepP K F (kvs.map fun kv => (kA kv.1, kv.2)) ps → ∃ ws : List (Key × V), ps = ws.map (fun kv => (kV kv.1, kv.2)) ∧ RepK K F kvs ws
  | [], _, h => ⟨[], h, rfl⟩
  | (k, x) :: r, _, h => by
    obtain ⟨v, w, t, rfl, h1, h2, h3⟩ := h
    obtain ⟨ws, rfl, h4⟩ := keys_rep (kvs := r) h3
    exact ⟨(k, w) :: ws, by rw [kA_rep h1]; rfl, w, ws, rfl, h2, h4⟩
theorem wE_disp {ks : List (Option Expr)} {vs : List Expr} (h : wPs B X ks vs Γ μ fun ps μ1 => ∃ kvs : List (Key × A), ps = kvs.map (fun kv => (kA kv.1, kv.2)) ∧ kvs.length ≤ 15 ∧ ∀ p : Addr, μ1 p = none → Q (.loc p) (μ1.upd p (.dic (mergeA [] kvs))))
    (ok : okPs ks vs = true := by rfl) (h0 : ks ≠ [] := by exact fun z => nomatch z) (hall : ks.all (·.isSome) = true := by rfl) (hl : ks.length = vs.length := by rfl) (h15 : ks.length ≤ 15 := by decide) : wE B X (.Dict ks vs pos) Γ μ Q :=
  wE_of (pe_disp (pps_rd ok) hall hl h0 h15) fun σ M F H bo rs r p np => by
  obtain ⟨hM, rN⟩ := r.frmNew (o := .dK []) np
  have k := pairs_run h (bo.up (.new hM)) rs rN
  have mono : ∀ (trs : List (TE × TE)), (∀ p ∈ trs, ∃ e1 e2, p = (rdE X e1, rdE X e2)) → ∀ (σ : L2.St) (H : Hp) (P P' : List (V × V) → Hp → Prop), (∀ ps H, P ps H → P' ps H) → tPairs trs σ H P → tPairs trs σ H P' := by
    intro trs
    induction trs with
    | nil => intro _ σ H P P' w h; exact w _ _ h
    | cons p r ih =>
      intro hp σ H P P' w h
      obtain ⟨a1, a2, rfl⟩ := hp _ List.mem_cons_self
      exact rdE_mono h fun x H1 h1 => rdE_mono h1 fun y H2 h2 => ih (fun q hq => hp q (List.mem_cons_of_mem _ hq)) σ H2 _ _ (fun ps H3 q => w _ _ q) h2
  have shape : ∀ (ks : List (Option Expr)) (vs : List Expr), ∀ p ∈ rdPs X ks vs, ∃ e1 e2, p = (rdE X e1, rdE X e2) := by
    intro ks
    induction ks with
    | nil => intro vs p hp; simp [rdPs] at hp
    | cons k ks ih =>
      intro vs p hp
      cases k with
      | none => simp [rdPs] at hp
      | some k => cases vs with
        | nil => simp [rdPs] at hp
        | cons v vs =>
          simp only [rdPs, List.mem_cons] at hp
          rcases hp with rfl | hp
          · exact ⟨_, _, rfl⟩
          · exact ih vs p hp
  refine mono _ (shape ks vs) _ _ _ _ (fun ps H2 q => ?_) k
  obtain ⟨qs, F2, μ2, e2, r2, p2, kvs, rfl, hk, q2⟩ := q
  obtain ⟨_, _, hp2⟩ := r2.frm p _ upd_same
  obtain ⟨ws, ep, hw⟩ := keys_rep p2
  refine ⟨hp2, ws, ep, by rw [hw.len]; exact hk, ?_⟩
  have r3 := r2.frmWrite (o' := .dK (mergeK [] ws))
  obtain ⟨nμ, r4⟩ := r3.frmOut (m := .dic (mergeA [] kvs)) hM ⟨_, rfl, merge_rep hw rfl⟩
  exact ⟨_, F2, _, e2, r4, rep_loc.mpr rfl, q2 p nμ⟩

mutual
def isShow : A → Bool
  | .non => true
  | .bl _ => true
  | .int i => decide (i.natAbs.log2 < 1920)
  | .str _ => true
  | .ty _ => false
  | .loc _ => false
  | .tup xs => isShows xs
  | .lst xs => isShows xs
  | .fls xs => isShows xs
def isShows : List A → Bool
  | [] => true
  | x :: xs => isShow x && isShows xs
end
mutual
def shl : A → Nat
  | .non => 4
  | .bl _ => 5
  | .int i => if i.natAbs < 10 ^ 18 then 20 else 1922
  | .str x => (reprText x).length
  | .ty _ => 4
  | .loc _ => 4
  | .tup xs => shls xs + 3
  | .lst xs => shls xs + 3
  | .fls xs => shls xs + 3
def shls : List A → Nat
  | [] => 0
  | x :: xs => shl x + 2 + shls xs
end
mutual
theorem showable_of : ∀ x : A, isShow x = true → (toD x).showable = true
  | .non, _ => by simp only [toD, PyData.showable]
  | .bl _, _ => by simp only [toD, PyData.showable]
  | .int _, h => by simpa only [toD, PyData.showable, isShow] using h
  | .str _, _ => by simp only [toD, PyData.showable]
  | .ty _, h => by simp [isShow] at h
  | .loc _, h => by simp [isShow] at h
  | .tup xs, h => by simp only [toD, PyData.showable]; exact showables_of xs (by simpa [isShow] using h)
  | .lst xs, h => by simp only [toD, PyData.showable]; exact showables_of xs (by simpa [isShow] using h)
  | .fls xs, h => by simp only [toD, PyData.showable]; exact showables_of xs (by simpa [isShow] using h)
theorem showables_of : ∀ xs : List A, isShows xs = true → PyData.showableAll (toDs xs) = true
  | [], _ => by simp only [toDs, PyData.showableAll]
  | x :: xs, h => by
    simp only [isShows, Bool.and_eq_true] at h
    simp only [toDs, PyData.showableAll, showable_of x h.1, showables_of xs h.2, Bool.and_self]
end
mutual
theorem noDict_of : ∀ x : A, (toD x).hasDict = false
  | .non => by simp only [toD, PyData.hasDict]
  | .bl _ => by simp only [toD, PyData.hasDict]
  | .int _ => by simp only [toD, PyData.hasDict]
  | .str _ => by simp only [toD, PyData.hasDict]
  | .ty _ => by simp only [toD, PyData.hasDict]
  | .loc _ => by simp only [toD, PyData.hasDict]
  | .tup xs => by simp only [toD, PyData.hasDict]; exact noDicts_of xs
  | .lst xs => by simp only [toD, PyData.hasDict]; exact noDicts_of xs
  | .fls xs => by simp only [toD, PyData.hasDict]; exact noDicts_of xs
theorem noDicts_of : ∀ xs : List A, PyData.hasDictAll (toDs xs) = false
  | [] => by simp only [toDs, PyData.hasDictAll]
  | x :: xs => by simp only [toDs, PyData.hasDictAll, noDict_of x, noDicts_of xs, Bool.or_self]
end
theorem len_intText {i : Int} (h : i.natAbs.log2 < 1920) : (Str.ofString (toString i)).length ≤ if i.natAbs < 10 ^ 18 then 20 else 1922 := by
  rw [PySem.ofString_length]
  split
  · rename_i h2
    have e := int_text_length_le10 (k := 18) (by decide) h2
    omega
  · have e := int_text_length_le (k := 1920) (by decide) h
    omega
theorem reprIs_d {x : A} (hs : isShow x = true) : isShow x = true := hs
mutual
theorem shown_le : ∀ x : A, isShow x = true → (toD x).shown.length ≤ shl x
  | .non, _ => by simp only [toD, PyData.shown, shl]; decide
  | .bl b, _ => by simp only [toD, PyData.shown, shl]; cases b <;> decide
  | .int i, h => by
    simp only [toD, PyData.shown, shl]
    exact len_intText (by simpa [isShow] using h)
  | .str x, _ => by simp only [toD, PyData.shown, shl]; exact Nat.le_refl _
  | .ty _, _ => by simp only [toD, PyData.shown, shl]; decide
  | .loc _, _ => by simp only [toD, PyData.shown, shl]; decide
  | .tup xs, h => by
    simp only [toD, PyData.shown, shl]
    have h1 := tupleText_len_le (PyData.shownAll (toDs xs))
    have h2 := showns_le xs (by simpa [isShow] using h)
    omega
  | .lst xs, h => by
    simp only [toD, PyData.shown, shl]
    have h1 := listText_len_le (PyData.shownAll (toDs xs))
    have h2 := showns_le xs (by simpa [isShow] using h)
    omega
  | .fls xs, h => by
    simp only [toD, PyData.shown, shl]
    have h1 := listText_len_le (PyData.shownAll (toDs xs))
    have h2 := showns_le xs (by simpa [isShow] using h)
    omega
theorem showns_le : ∀ xs : List A, isShows xs = true → ((PyData.shownAll (toDs xs)).map (·.length)).sum + 2 * (PyData.shownAll (toDs xs)).length ≤ shls xs
  | [], _ => by simp [toDs, PyData.shownAll, shls]
  | x :: xs, h => by
    simp only [isShows, Bool.and_eq_true] at h
    have h1 := shown_le x h.1
    have h2 := showns_le xs h.2
    simp only [toDs, PyData.shownAll, shls, List.map_cons, List.sum_cons, List.length_cons]
    omega
end
structure ShowOk (x : A) : Prop where
  sh : isShow x = true
  dp : deep x ≤ 60
  ln : shl x ≤ sizeLine
mutual
theorem dp_show : ∀ {K : PySem.W.Frag} {H : Hp} {x : A} {v : V}, isShow x = true → Rep K H x v → Dp K H v (toD x)
  | _, _, .non, _, _, h => by rw [rep_non] at h; subst h; exact .non
  | _, _, .bl b, _, _, h => by rw [rep_bl] at h; subst h; exact .bl b
  | _, _, .int i, _, _, h => by rw [rep_int] at h; subst h; exact .int i
  | _, _, .str x, _, _, h => by rw [rep_str] at h; subst h; exact .str x
  | _, _, .ty _, _, h, _ => by simp [isShow] at h
  | _, _, .loc _, _, h, _ => by simp [isShow] at h
  | _, _, .tup xs, _, hd, h => by
    rw [rep_tup] at h; obtain ⟨a, vs, rfl, h1, h2⟩ := h
    simp only [toD]
    exact .tup h1 (dps_show (by simpa [isShow] using hd) h2)
  | _, _, .lst xs, _, hd, h => by
    rw [rep_lst] at h; obtain ⟨a, vs, rfl, h1, h2⟩ := h
    simp only [toD]
    exact .lst (.inl (.inl h1)) (dps_show (by simpa [isShow] using hd) h2)
  | _, _, .fls xs, _, hd, h => by
    rw [rep_fls] at h; obtain ⟨a, vs, rfl, h1, h2⟩ := h
    simp only [toD]
    exact .lst h1 (dps_show (by simpa [isShow] using hd) h2)
theorem dps_show : ∀ {K : PySem.W.Frag} {H : Hp} {xs : List A} {vs : List V}, isShows xs = true → RepL K H xs vs → DpAll K H vs (toDs xs)
  | _, _, [], _, _, h => by simp only [RepL] at h; subst h; exact .nil
  | _, _, x :: xs, _, hd, h => by
    simp only [RepL] at h
    obtain ⟨v, r, rfl, h1, h2⟩ := h
    simp only [isShows, Bool.and_eq_true] at hd
    simp only [toDs]
    exact .cons (dp_show hd.1 h1) (dps_show hd.2 h2)
end
theorem wC_repr {k : Nat} {x : A} (ar : Ar X k) (hx : ShowOk x) (q : Q (.str (toD x).shown) μ) : wC X (.builtin "repr") [x] μ Q := by
  intro M F H vs rl rp
  refine ⟨fun pins s σ us I rv => ?_⟩
  obtain ⟨v, rfl, h⟩ := rp.one
  obtain ⟨u, rfl, ru⟩ := rv.one
  have hl := shown_le x hx.sh
  have hz : (toD x).shown.length ≤ sizeLine := Nat.le_trans hl hx.ln
  have fin : ∀ (t : Nat) (h' : Heap) (tk : Nat), (∀ b o, s.heap.get? b = some o → h'.get? b = some o) → EP X pins σ (QE X.K M F Q) (.str (toD x).shown t) { s with heap := h', toks := tk } := fun t h' tk kp => ⟨.str (toD x).shown, H, I.kept kp, ⟨t, rfl⟩, .pure rl (rep_str.mpr rfl) q⟩
  have big : ∀ a, u = .ref a → wpAny (model X.prog X.w) X.A (call (.builtin "repr") [u]) (EP X pins σ (QE X.K M F Q)) X.xe s := by
    intro a e
    subst e
    obtain ⟨as, rd⟩ := Dp.reads I (toD x) v _ (dp_show hx.sh (h.mono rl.sub)) ru
    have hd := depth_of x
    have hu := ar.u64
    exact repr_of_reads' rd (showable_of x hx.sh) (PyData.noDict_hsm (noDict_of x)) ar.show0 (by have := hx.dp; omega) (fun _ _ z => z) (fun h' t tk kp => fin t h' tk kp) hz
  cases x with
  | non =>
    rw [rep_non] at h; subst h; cases ru
    exact P.repr_of_none (by simpa only [toD, PyData.shown] using fin s.toks s.heap (s.toks + 1) fun _ _ z => z)
  | bl b =>
    rw [rep_bl] at h; subst h; cases ru
    exact P.repr_of_bool (by simpa only [toD, PyData.shown] using fin s.toks s.heap (s.toks + 1) fun _ _ z => z)
  | int i =>
    rw [rep_int] at h; subst h; obtain ⟨t, rfl⟩ := ru
    exact P.repr_of_int (by simpa [isShow] using hx.sh) (by simpa only [toD, PyData.shown] using fin s.toks s.heap (s.toks + 1) fun _ _ z => z)
  | str i =>
    rw [rep_str] at h; subst h; obtain ⟨t, rfl⟩ := ru
    exact P.repr_of_str (by simpa only [toD, PyData.shown] using fin s.toks s.heap (s.toks + 1) fun _ _ z => z) (by simpa only [toD, PyData.shown] using hz)
  | ty n => exact absurd hx.sh (by simp [isShow])
  | loc n => exact absurd hx.sh (by simp [isShow])
  | tup xs => rw [rep_tup] at h; obtain ⟨a, ws, rfl, _⟩ := h; cases ru; exact big a rfl
  | lst xs => rw [rep_lst] at h; obtain ⟨a, ws, rfl, _⟩ := h; cases ru; exact big a rfl
  | fls xs => rw [rep_fls] at h; obtain ⟨a, ws, rfl, _⟩ := h; cases ru; exact big a rfl
end
end D

namespace D
open PySem PySem.Spec PyProof.Rows L2
section
variable {B : Bs} {X : Cx} {Γ : G} {μ : Mu} {Q : A → Mu → Prop} {Z Z' : AD} {e o i : Expr} {pos apos cpos : Pos} {st : Stmt} {ss rest : List Stmt}
variable {elt tg iter c : Expr} {scope : Scope} {ifs : List Expr}
theorem wS.imp (h : wS B X st Γ μ Z) (w1 : ∀ Γ μ, Z.nx Γ μ → Z'.nx Γ μ) (w2 : ∀ x μ, Z.rt x μ → Z'.rt x μ) (w3 : ∀ Γ μ, Z.bk Γ μ → Z'.bk Γ μ) (w4 : ∀ Γ μ, Z.ct Γ μ → Z'.ct Γ μ) : wS B X st Γ μ Z' := fun σ M F H bo rs r =>
  (h σ M F H bo rs r).imp (fun _ _ ⟨a, b, c, d, e, f, q⟩ => ⟨a, b, c, d, e, f, w1 _ _ q⟩) (fun _ _ ⟨a, b, c, d, e, f, q⟩ => ⟨a, b, c, d, e, f, w2 _ _ q⟩) (fun _ _ ⟨a, b, c, d, e, f, q⟩ => ⟨a, b, c, d, e, f, w3 _ _ q⟩) (fun _ _ ⟨a, b, c, d, e, f, q⟩ => ⟨a, b, c, d, e, f, w4 _ _ q⟩)
theorem wSs_cut (P : G → Mu → Prop) (h : wS B X st Γ μ { Z with nx := P }) (k : ∀ Γ' μ', P Γ' μ' → wSs B X rest Γ' μ' Z) : wSs B X (st :: rest) Γ μ Z :=
  wSs_cons (wS.imp h (fun _ _ q => k _ _ q) (fun _ _ q => q) (fun _ _ q => q) (fun _ _ q => q))
theorem wSs_slots {Γ' : G} (hl : Γ'.length = Γ.length) (w : ∀ (i : Nat) (x : A), Γ'[i]? = some (some x) → Γ[i]? = some (some x)) (h : wSs B X ss Γ' μ Z) : wSs B X ss Γ μ Z := fun σ M F H bo rs r => h σ M F H bo (rs.weak hl w) r
theorem wE_lcF (own : List (Str × Nat)) (h : wIt B X tg iter Γ μ fun ys μ1 => ys.length ≤ sizeLine ∧ ∃ zs : List A, zs.length = ys.length ∧
      (∀ (i : Nat) y z, ys[i]? = some y → zs[i]? = some z → ∀ s0 H0 C cl fp, wGw B (bk X scope s0 H0 C cl fp) tg (own.map (·.2)) y (wipeA Γ (own.map (·.2))) μ1 fun Γ2 μ2 => μ2 = μ1 ∧ ∀ s0 H0 C cl fp, vE B (bk X scope s0 H0 C cl fp) elt Γ2 μ1 z) ∧ Q (.lst zs) μ1)
    (hN : X.N.Nodup) (ok : BlkOk X.N X.env.scope scope own) (hc : X.calm = true := by rfl) (hs : ∀ x, foldedSetIterable iter X.env x = pure x := by intro _; rfl) : wE B X (.ListComp elt [⟨tg, iter, [], 0⟩] scope pos) Γ μ Q := by
  refine wE_frz (wE_lc own (lcMap ?_) hN ok (.inl rfl) hc hs)
  intro σ M F H bo rs r
  refine ⟨fun pins s I => ?_⟩
  refine thn ((h σ M F H bo rs r).o pins s I) fun v s1 h1 => thn h1 fun itv s2 h2 => ?_
  obtain ⟨it, fp, tn, J0, H2, g1, g2, g3, g4, g5, ys, F1, μ1, e1, r1, wk, hz, zs, hl, turn, done⟩ := h2
  exact ⟨it, fp, tn, J0, H2, g1, g2, g3, g4, g5, ys, F1, μ1, e1, r1, wk, hz, zs, hl, turn, fun p np => ⟨p, zs, rfl, Mu.upd_same, by rw [Mu.del_upd np]; exact done⟩⟩
theorem wE_lcPF (own : List (Str × Nat)) (h : wIt B X tg iter Γ μ fun ys μ1 => ys.length ≤ sizeLine ∧ ∃ (ks : List Bool) (zs : List A), ks.length = ys.length ∧ zs.length = ys.length ∧
      (∀ (i : Nat) y k z, ys[i]? = some y → ks[i]? = some k → zs[i]? = some z → ∀ s0 H0 C cl fp, wGw B (bk X scope s0 H0 C cl fp) tg (own.map (·.2)) y (wipeA Γ (own.map (·.2))) μ1 fun Γ2 μ2 => μ2 = μ1 ∧ (∀ s0 H0 C cl fp, vT B (bk X scope s0 H0 C cl fp) c Γ2 μ1 k) ∧ (k = true → ∀ s0 H0 C cl fp, vE B (bk X scope s0 H0 C cl fp) elt Γ2 μ1 z)) ∧ Q (.lst (pickA ks zs)) μ1)
    (hN : X.N.Nodup) (ok : BlkOk X.N X.env.scope scope own) (hc : X.calm = true := by rfl) (hs : ∀ x, foldedSetIterable iter X.env x = pure x := by intro _; rfl) : wE B X (.ListComp elt [⟨tg, iter, [c], 0⟩] scope pos) Γ μ Q := by
  refine wE_frz (wE_lc own (lcPick ?_) hN ok (.inr ⟨_, rfl⟩) hc hs)
  intro σ M F H bo rs r
  refine ⟨fun pins s I => ?_⟩
  refine thn ((h σ M F H bo rs r).o pins s I) fun v s1 h1 => thn h1 fun itv s2 h2 => ?_
  obtain ⟨it, fp, tn, J0, H2, g1, g2, g3, g4, g5, ys, F1, μ1, e1, r1, wk, hz, ks, zs, hk, hl, turn, done⟩ := h2
  exact ⟨it, fp, tn, J0, H2, g1, g2, g3, g4, g5, ys, F1, μ1, e1, r1, wk, hz, ks, zs, hk, hl, turn, fun p np => ⟨p, _, rfl, Mu.upd_same, by rw [Mu.del_upd np]; exact done⟩⟩
theorem wS_frzNx (i : Nat) (h : wS B X st Γ μ { Z with nx := fun Γ' μ' => ∃ p xs, Γ'[i]? = some (some (.loc p)) ∧ μ' p = some (.lst xs) ∧ Z.nx (Γ'.set i (some (.lst xs))) (μ'.del p) }) : wS B X st Γ μ Z := fun σ M F H bo rs r =>
  (h σ M F H bo rs r).imp (fun σ' H' ⟨Γ', F', μ', ex, rs', rl', p, xs, e1, e2, q⟩ => by
    obtain ⟨F2, ex2, rl2, rp⟩ := rl'.freeze e2
    refine ⟨_, F2, _, ex.trans ex2, ?_, rl2, q⟩
    have r2 := rs'.mono ex2
    refine ⟨by rw [List.length_set]; exact rs'.len, fun j x q => ?_⟩
    rw [List.getElem?_set] at q
    split at q
    · rename_i e
      subst e
      split at q
      · cases q
        obtain ⟨v, h1, h2⟩ := rs'.at_ _ _ e1
        rw [rep_loc] at h2; subst h2
        exact ⟨_, h1, rp⟩
      · cases q
    · exact r2.at_ j x q) (fun _ _ q => q) (fun _ _ q => q) (fun _ _ q => q)
end
end D

namespace D
open PySem PySem.Spec PyProof.Rows L2
structure Cal (P : Program) (w : World) (K : PySem.W.Frag) (mg : Str → Option Value) (base : Heap) (k : Nat) (x : Str) (c : AC) : Prop where
  ex : ∃ (f : Addr) (fd : FuncData) (ps : List Str), FnD P w K mg base CX0 k f fd ps c ∧ mg x = some (.ref f) ∧ PySem.W.keepIn K (.ref f) = true ∧ Binds K fd ps []
structure CalD (P : Program) (w : World) (K : PySem.W.Frag) (mg : Str → Option Value) (base : Heap) (k : Nat) (x : Str) (das : List A) (c : AC) : Prop where
  ex : ∃ (f : Addr) (fd : FuncData) (ps : List Str) (ds : List Value) (dvs : List V), FnD P w K mg base CX0 k f fd ps c ∧ mg x = some (.ref f) ∧ PySem.W.keepIn K (.ref f) = true ∧ Binds K fd ps ds ∧ Vals dvs ds ∧ ∀ F, RepL K F das dvs
section
variable {B : Bs} {X : Cx} {Γ : G} {μ : Mu} {Q : A → Mu → Prop} {Z : AD} {e : Expr} {es : List Expr} {pos p : Pos} {k j : Nat} {x : Str} {c : AC}
variable {elt tg iter t : Expr} {scope : Scope}
theorem wE_cal (C : Cal X.prog X.w X.K X.mg X.base k x c) (ar : Ar X j) (hk : k ≤ j) (h : wA B X (e :: es) Γ μ fun xs μ1 => c xs μ1 Q fun _ _ _ => False) (hg : Gl X x := by rfl) (hdb : (x == ("__debug__" : Str)) = false := by decide)
    (he : starEach (e :: es) X.env = (false, eval e X.env) :: starEach es X.env := by rfl) (hpl : (backTo pos (starEach es X.env)).any (·.1) = false := by rfl) : wE B X (.Call (.Name x p) (e :: es) [] pos) Γ μ Q := by
  obtain ⟨f, fd, ps, F, h1, h2, h3⟩ := C.ex
  exact wE_call F ⟨h1, h2, h3⟩ (ar.mono hk) h hg hdb he hpl
theorem wE_cal0 (C : Cal X.prog X.w X.K X.mg X.base k x c) (ar : Ar X j) (hk : k ≤ j) (h : c [] μ Q fun _ _ _ => False) (hg : Gl X x := by rfl) (hdb : (x == ("__debug__" : Str)) = false := by decide) : wE B X (.Call (.Name x p) [] [] pos) Γ μ Q := by
  obtain ⟨f, fd, ps, F, h1, h2, h3⟩ := C.ex
  exact wE_call0 F ⟨h1, h2, h3⟩ (ar.mono hk) h hg hdb
theorem wE_calD {das : List A} (C : CalD X.prog X.w X.K X.mg X.base k x das c) (ar : Ar X j) (hk : k ≤ j) (h : wA B X (e :: es) Γ μ fun xs μ1 => c (xs ++ das) μ1 Q fun _ _ _ => False) (hg : Gl X x := by rfl) (hdb : (x == ("__debug__" : Str)) = false := by decide)
    (he : starEach (e :: es) X.env = (false, eval e X.env) :: starEach es X.env := by rfl) (hpl : (backTo pos (starEach es X.env)).any (·.1) = false := by rfl) : wE B X (.Call (.Name x p) (e :: es) [] pos) Γ μ Q := by
  obtain ⟨f, fd, ps, ds, dvs, F, h1, h2, h3, h4, h5⟩ := C.ex
  exact wE_callD das F ⟨h1, h2, h3⟩ (ar.mono hk) h4 h5 h hg hdb he hpl
theorem wS_setLcF (own : List (Str × Nat)) (i : Nat) {y : Str} {py spos : Pos} (h : wIt B X tg iter Γ μ fun ys μ1 => ys.length ≤ sizeLine ∧ ∃ zs : List A, zs.length = ys.length ∧
      (∀ (i : Nat) y z, ys[i]? = some y → zs[i]? = some z → ∀ s0 H0 C cl fp, wGw B (bk X scope s0 H0 C cl fp) tg (own.map (·.2)) y (wipeA Γ (own.map (·.2))) μ1 fun Γ2 μ2 => μ2 = μ1 ∧ ∀ s0 H0 C cl fp, vE B (bk X scope s0 H0 C cl fp) elt Γ2 μ1 z) ∧ Z.nx (Γ.set i (some (.lst zs))) μ1)
    (hN : X.N.Nodup) (ok : BlkOk X.N X.env.scope scope own) (hsw : swapsWith (.ListComp elt [⟨tg, iter, [], 0⟩] scope pos) (some (.Name y py)) spos.line X.env = pure true) (hl : i < Γ.length := by exact Nat.le_of_ble_eq_true rfl)
    (hc : X.calm = true := by rfl) (hy : X.N[i]? = some y := by rfl) (hyl : X.env.scope.names.lookup y = some .local := by rfl) (hs : ∀ x, foldedSetIterable iter X.env x = pure x := by intro _; rfl) :
    wS B X (.Assign [.Name y py] (.ListComp elt [⟨tg, iter, [], 0⟩] scope pos) spos) Γ μ Z := by
  refine wS_frzNx i (wS_setLc own i (lcMap ?_) hN ok hsw (.inl rfl) hc hy hyl hs)
  intro σ M F H bo rs r
  refine ⟨fun pins s I => ?_⟩
  refine thn ((h σ M F H bo rs r).o pins s I) fun v s1 h1 => thn h1 fun itv s2 h2 => ?_
  obtain ⟨it, fp, tn, J0, H2, g1, g2, g3, g4, g5, ys, F1, μ1, e1, r1, wk, hz, zs, hl2, turn, done⟩ := h2
  refine ⟨it, fp, tn, J0, H2, g1, g2, g3, g4, g5, ys, F1, μ1, e1, r1, wk, hz, zs, hl2, turn, fun p np => ⟨p, zs, ?_, Mu.upd_same, ?_⟩⟩
  · rw [List.getElem?_set_self hl]
  · rw [Mu.del_upd np, List.set_set]; exact done
theorem wS_setLcPF (own : List (Str × Nat)) (i : Nat) {y : Str} {py spos : Pos} (h : wIt B X tg iter Γ μ fun ys μ1 => ys.length ≤ sizeLine ∧ ∃ (ks : List Bool) (zs : List A), ks.length = ys.length ∧ zs.length = ys.length ∧
      (∀ (i : Nat) y k z, ys[i]? = some y → ks[i]? = some k → zs[i]? = some z → ∀ s0 H0 C cl fp, wGw B (bk X scope s0 H0 C cl fp) tg (own.map (·.2)) y (wipeA Γ (own.map (·.2))) μ1 fun Γ2 μ2 => μ2 = μ1 ∧ (∀ s0 H0 C cl fp, vT B (bk X scope s0 H0 C cl fp) t Γ2 μ1 k) ∧ (k = true → ∀ s0 H0 C cl fp, vE B (bk X scope s0 H0 C cl fp) elt Γ2 μ1 z)) ∧ Z.nx (Γ.set i (some (.lst (pickA ks zs)))) μ1)
    (hN : X.N.Nodup) (ok : BlkOk X.N X.env.scope scope own) (hsw : swapsWith (.ListComp elt [⟨tg, iter, [t], 0⟩] scope pos) (some (.Name y py)) spos.line X.env = pure true) (hl : i < Γ.length := by exact Nat.le_of_ble_eq_true rfl)
    (hc : X.calm = true := by rfl) (hy : X.N[i]? = some y := by rfl) (hyl : X.env.scope.names.lookup y = some .local := by rfl) (hs : ∀ x, foldedSetIterable iter X.env x = pure x := by intro _; rfl) :
    wS B X (.Assign [.Name y py] (.ListComp elt [⟨tg, iter, [t], 0⟩] scope pos) spos) Γ μ Z := by
  refine wS_frzNx i (wS_setLc own i (lcPick ?_) hN ok hsw (.inr ⟨_, rfl⟩) hc hy hyl hs)
  intro σ M F H bo rs r
  refine ⟨fun pins s I => ?_⟩
  refine thn ((h σ M F H bo rs r).o pins s I) fun v s1 h1 => thn h1 fun itv s2 h2 => ?_
  obtain ⟨it, fp, tn, J0, H2, g1, g2, g3, g4, g5, ys, F1, μ1, e1, r1, wk, hz, ks, zs, hk, hl2, turn, done⟩ := h2
  refine ⟨it, fp, tn, J0, H2, g1, g2, g3, g4, g5, ys, F1, μ1, e1, r1, wk, hz, ks, zs, hk, hl2, turn, fun p np => ⟨p, _, ?_, Mu.upd_same, ?_⟩⟩
  · rw [List.getElem?_set_self hl]
  · rw [Mu.del_upd np, List.set_set]; exact done
end
section
variable {P : Program} {w : World} {mg : Str → Option Value} {base : Heap} {K : PySem.W.Frag}
theorem Cal.imp {k : Nat} {x : Str} {c c' : AC} (C : Cal P w K mg base k x c) (h : ∀ xs μ Q E, c' xs μ Q E → c xs μ Q E) : Cal P w K mg base k x c' := by
  obtain ⟨f, fd, ps, F, r⟩ := C.ex
  exact ⟨f, fd, ps, F.imp h, r⟩
end
theorem atI_pos {α : Type} {xs : List α} {i : Int} {y : α} (h : xs[i.toNat]? = some y) (h0 : 0 ≤ i) : atI xs i = some y := by
  have hl : i.toNat < xs.length := (List.getElem?_eq_some_iff.mp h).1
  unfold atI ixN
  rw [if_pos h0, if_pos (by omega)]
  exact h
theorem atI_neg {α : Type} {xs : List α} {i : Int} {y : α} (h : xs[(i + xs.length).toNat]? = some y) (h0 : i < 0) (h1 : -(xs.length : Int) ≤ i) : atI xs i = some y := by
  unfold atI ixN
  rw [if_neg (by omega), if_pos h1]
  exact h
end D

namespace D
open PySem PySem.Spec PyProof.Rows L2
theorem rgA_at {lo : Int} {n i : Nat} {y : A} (h : (rgA lo n)[i]? = some y) : i < n ∧ y = .int (lo + (i : Nat)) := by
  have hi : i < n := by have := (List.getElem?_eq_some_iff.mp h).1; rwa [rgA_len] at this
  rw [rgA_get hi] at h; cases h
  exact ⟨hi, rfl⟩
theorem mapR_at {α : Type} {f : Nat → α} {n i : Nat} {z : α} (h : ((List.range n).map f)[i]? = some z) : i < n ∧ z = f i := by
  have hi : i < n := by have := (List.getElem?_eq_some_iff.mp h).1; simpa using this
  simp [hi] at h
  exact ⟨hi, h.symm⟩
theorem map_at {α β : Type} {f : α → β} {l : List α} {i : Nat} {z : β} (h : (l.map f)[i]? = some z) : ∃ a, l[i]? = some a ∧ z = f a := by
  rw [List.getElem?_map] at h
  cases e : l[i]? with
  | none => simp [e] at h
  | some a => rw [e] at h; cases h; exact ⟨a, rfl, rfl⟩
theorem enumA_at {xs : List A} {i : Nat} {y : A} (h : (enumA 0 xs)[i]? = some y) : ∃ x, xs[i]? = some x ∧ y = .tup [.int (i : Nat), x] := by
  have hi : i < xs.length := by have := (List.getElem?_eq_some_iff.mp h).1; rwa [enumA_len] at this
  rw [enumA_get (List.getElem?_eq_getElem hi)] at h
  cases h
  exact ⟨xs[i], List.getElem?_eq_getElem hi, by simp⟩
theorem zipA_at : ∀ {xs ys : List A} {i : Nat} {y : A}, (zipA xs ys)[i]? = some y → ∃ a b, xs[i]? = some a ∧ ys[i]? = some b ∧ y = .tup [a, b]
  | [], _, _, _, h => by simp [zipA] at h
  | _ :: _, [], _, _, h => by simp [zipA] at h
  | x :: xs, z :: ys, 0, y, h => by simp [zipA] at h; exact ⟨x, z, rfl, rfl, h.symm⟩
  | x :: xs, z :: ys, i + 1, y, h => by
    simp only [zipA, List.getElem?_cons_succ] at h ⊢
    exact zipA_at h
section
variable {B : Bs} {X : Cx} {μ : Mu} {Q : A → Mu → Prop} {x y : A} {xs ys : List A}
theorem wO_eqL (hu : X.A.units + 64 < cLine) (hx : IsL μ x xs) (hy : IsL μ y ys) (dx : DatOk (.lst xs)) (dy : DatOk (.lst ys)) (q : Q (.bl (PyData.eqv (toD (.lst xs)) (toD (.lst ys)))) μ) : wO X (compareOp .Eq) x y μ Q :=
  wO_of (op_eqD hu) fun M F H v w rl r1 r2 => by
    obtain ⟨a, vs, e1, h1, h2⟩ := hx.rep rl r1
    obtain ⟨b, ws, e2, g1, g2⟩ := hy.rep rl r2
    have d1 : Dp X.K H v (toD (.lst xs)) := dp_of dx.1 (rep_lst.mpr ⟨a, vs, e1, h1, h2.mono rl.sub⟩)
    have d2 : Dp X.K H w (toD (.lst ys)) := dp_of dy.1 (rep_lst.mpr ⟨b, ws, e2, g1, g2.mono rl.sub⟩)
    exact ⟨_, _, d1, d2, dx.shaped, dy.shaped, .pure rl (rep_bl.mpr rfl) q⟩
theorem wO_neL (hu : X.A.units + 64 < cLine) (hx : IsL μ x xs) (hy : IsL μ y ys) (dx : DatOk (.lst xs)) (dy : DatOk (.lst ys)) (q : Q (.bl (!PyData.eqv (toD (.lst xs)) (toD (.lst ys)))) μ) : wO X (compareOp .NotEq) x y μ Q :=
  wO_of (op_neD hu) fun M F H v w rl r1 r2 => by
    obtain ⟨a, vs, e1, h1, h2⟩ := hx.rep rl r1
    obtain ⟨b, ws, e2, g1, g2⟩ := hy.rep rl r2
    have d1 : Dp X.K H v (toD (.lst xs)) := dp_of dx.1 (rep_lst.mpr ⟨a, vs, e1, h1, h2.mono rl.sub⟩)
    have d2 : Dp X.K H w (toD (.lst ys)) := dp_of dy.1 (rep_lst.mpr ⟨b, ws, e2, g1, g2.mono rl.sub⟩)
    exact ⟨_, _, d1, d2, dx.shaped, dy.shaped, .pure rl (rep_bl.mpr rfl) q⟩
end
theorem datInts (ns : List Int) : DatOk (.lst (ns.map A.int)) := by
  refine ⟨by simp only [isD]; exact isDs_map (fun _ => by simp only [isD]) ns, ?_⟩
  have : deeps (ns.map A.int) ≤ 0 := deeps_le fun a ha => by
    obtain ⟨n, _, rfl⟩ := List.mem_map.mp ha
    simp [deep]
  simp only [deep]; omega
theorem datNil : DatOk (.lst []) := ⟨rfl, by simp [deep, deeps]⟩
theorem eqvNil (xs : List A) : PyData.eqv (toD (.lst xs)) (toD (.lst [])) = xs.isEmpty := by
  cases xs with
  | nil => simp [toD, toDs, PyData.eqv, PyData.eqvAll]
  | cons x xs => simp [toD, toDs, PyData.eqv, PyData.eqvAll]
def G64 (fs : List Int) : Prop := fs.length = 64 ∧ ∀ v ∈ fs, 0 ≤ v ∧ v < 2 ^ 31
theorem G64.at {fs : List Int} (h : G64 fs) {i : Int} (h0 : 0 ≤ i) (h1 : i < 64) : ∃ v, atI (fs.map A.int) i = some (.int v) ∧ 0 ≤ v ∧ v < 2 ^ 31 := by
  have hi : i.toNat < fs.length := by rw [h.1]; omega
  refine ⟨fs[i.toNat], atI_pos (by rw [List.getElem?_map, List.getElem?_eq_getElem hi]; rfl) h0, h.2 _ (List.getElem_mem hi)⟩
theorem G64.set {fs : List Int} (h : G64 fs) (n : Nat) {v : Int} (h0 : 0 ≤ v) (h1 : v < 2 ^ 31) : G64 (fs.set n v) := by
  refine ⟨by rw [List.length_set]; exact h.1, fun u hu => ?_⟩
  rcases List.mem_or_eq_of_mem_set hu with hu | rfl
  · exact h.2 u hu
  · exact ⟨h0, h1⟩
theorem set_map {α : Type} (f : α → A) (l : List α) (n : Nat) (v : α) : (l.map f).set n (f v) = (l.set n v).map f := by rw [List.map_set]
theorem ixN_pos {n : Nat} {i : Int} (h0 : 0 ≤ i) (h1 : i < n) : ixN n i = some i.toNat := by
  unfold ixN; rw [if_pos h0, if_pos h1]
structure Lw (m l : Addr) (c : Nat) (μ : Mu) : Prop where
  ex : ∃ (fs left : List Int) (at_ room : Int), μ m = some (.dic [(.inr "cells", .lst (fs.map A.int)), (.inr "left", .loc l), (.inr "at", .int at_), (.inr "room", .int room)]) ∧ μ l = some (.lst (left.map A.int)) ∧ G64 fs ∧ left.length ≤ 63 ∧ 0 ≤ at_ ∧ at_ ≤ c
  ne : l ≠ m
theorem Lw.up {m l : Addr} {c d : Nat} {μ : Mu} (h : Lw m l c μ) (hd : c ≤ d) : Lw m l d μ := by
  obtain ⟨⟨fs, left, a, r, h1, h2, h3, h4, h5, h6⟩, h7⟩ := h
  exact ⟨⟨fs, left, a, r, h1, h2, h3, h4, h5, by omega⟩, h7⟩
def Ls (m l : Addr) (μ μ' : Mu) : Prop := ∀ p o, p ≠ m → p ≠ l → μ p = some o → μ' p = some o
theorem Ls.refl {m l : Addr} (μ : Mu) : Ls m l μ μ := fun _ _ _ _ h => h
theorem Ls.trans {m l : Addr} {μ μ1 μ2 : Mu} (a : Ls m l μ μ1) (b : Ls m l μ1 μ2) : Ls m l μ μ2 := fun p o h1 h2 h => b p o h1 h2 (a p o h1 h2 h)
theorem Ls.m {m l : Addr} {μ : Mu} {o : MO} : Ls m l μ (μ.upd m o) := fun p o h1 h2 h => by rw [Mu.upd_ne h1]; exact h
theorem Ls.l {m l : Addr} {μ : Mu} {o : MO} : Ls m l μ (μ.upd l o) := fun p o h1 h2 h => by rw [Mu.upd_ne h2]; exact h
theorem Lw.sub {m l : Addr} {c : Nat} {μ μ' : Mu} (h : Lw m l c μ) (s : Sub μ μ') : Lw m l c μ' := by
  obtain ⟨⟨fs, left, a, r, h1, h2, h3⟩, h7⟩ := h
  exact ⟨⟨fs, left, a, r, s _ _ h1, s _ _ h2, h3⟩, h7⟩
theorem Lw.off {m l : Addr} {c : Nat} {μ : Mu} (h : Lw m l c μ) {p : Addr} (n : μ p = none) : p ≠ m ∧ p ≠ l := by
  obtain ⟨⟨fs, left, a, r, h1, h2, h3⟩, h7⟩ := h
  exact ⟨fun z => by (rw [z, h1] at n; cases n), fun z => by (rw [z, h2] at n; cases n)⟩
end D

namespace D
open PySem PySem.Spec PyProof.Rows L2
theorem szOk {n : Nat} (h : n ≤ 16777215) : n ≤ sizeLine := Nat.le_trans h (by decide)
theorem szLt {n : Nat} (h : n ≤ 16777215) : n < sizeLine := Nat.lt_of_le_of_lt h (by decide)
theorem and_flip {a b : Prop} (hb : b) (ha : a) : a ∧ b := ⟨ha, hb⟩
theorem Ar.bk {X : Cx} {k : Nat} (h : Ar X k) {scope : Scope} {s0 : Shared} {H0 : Hp} {C : Addr} {cl : List (Str × Addr)} {fp : List Addr} : Ar (D.bk X scope s0 H0 C cl fp) k := ⟨h.room, h.show0⟩
section
variable {B : Bs} {X : Cx} {Γ : G} {μ : Mu} {Q : A → Mu → Prop} {x : A} {xs : List A} {i : Int} {y : A}
theorem wI_tl (h : x = .tup xs ∨ x = .lst xs) (e : atI xs i = some y) (q : Q y μ) : wI X x (.int i) μ Q := by
  rcases h with rfl | rfl
  · exact wI_tup e q
  · exact wI_lst e q
end
theorem atInt {l : List Int} {i : Int} (k : Nat) (h0 : i = k) (h : k < l.length) : atI (l.map A.int) i = some (.int (l.getD k 0)) := by
  subst h0
  refine atI_pos ?_ (by omega)
  rw [Int.toNat_natCast, List.getElem?_map, List.getElem?_eq_getElem h]
  simp [List.getD_eq_getElem?_getD, List.getElem?_eq_getElem h]
theorem atLast {α : Type} {l : List α} {y : α} (h : l[l.length - 1]? = some y) : atI l (-1) = some y := by
  have hl : 0 < l.length := by have := (List.getElem?_eq_some_iff.mp h).1; omega
  refine atI_neg (by rw [show ((-1 : Int) + l.length).toNat = l.length - 1 by omega]; exact h) (by omega) (by omega)
theorem cut1 (l : List A) : cutA l (some 1) none = l.drop 1 := by
  unfold cutA HT.sIx
  simp only [show ¬ ((1 : Int) < 0) by omega, if_false]
  cases l with
  | nil => rfl
  | cons x l =>
    have e : min (1 : Int).toNat (x :: l).length = 1 := by simp
    rw [e]
    exact List.take_of_length_le (Nat.le_of_eq (by simp))
theorem cut1_at {α : Type} {f : α → A} {l : List α} {i : Nat} {y : A} (h : (cutA (l.map f) (some 1) none)[i]? = some y) : (l.map f)[i + 1]? = some y := by
  rw [cut1, List.getElem?_drop, Nat.add_comm] at h; exact h
def minL : List Int → Int
  | [] => 0
  | [x] => x
  | x :: y :: l => if x ≤ minL (y :: l) then x else minL (y :: l)
theorem minL_spec : ∀ {l : List Int}, 0 < l.length → minL l ∈ l ∧ ∀ y ∈ l, minL l ≤ y
  | [], h => by simp at h
  | [x], _ => by simp [minL]
  | x :: y :: l, _ => by
    obtain ⟨h1, h2⟩ := minL_spec (l := y :: l) (by simp)
    simp only [minL]
    split
    · rename_i hc
      exact ⟨by simp, List.forall_mem_cons.mpr ⟨Int.le_refl _, fun z hz => by have := h2 z hz; omega⟩⟩
    · rename_i hc
      exact ⟨List.mem_cons_of_mem _ h1, List.forall_mem_cons.mpr ⟨by omega, h2⟩⟩
theorem minL_eq {l : List Int} {m : Int} (h1 : m ∈ l) (h2 : ∀ y ∈ l, m ≤ y) : m = minL l := by
  obtain ⟨g1, g2⟩ := minL_spec (List.length_pos_of_mem h1)
  have := h2 _ g1
  have := g2 _ h1
  omega
mutual
theorem eqvInts_ : ∀ a b : List Int, PyData.eqvAll (toDs (a.map A.int)) (toDs (b.map A.int)) = decide (a = b)
  | [], [] => by simp [toDs, PyData.eqvAll]
  | [], y :: b => by simp [toDs, PyData.eqvAll]
  | x :: a, [] => by simp [toDs, PyData.eqvAll]
  | x :: a, y :: b => by
    simp only [List.map_cons, toDs, toD, PyData.eqvAll, PyData.eqv, eqvInts_ a b]
    by_cases h : x = y <;> by_cases h2 : a = b <;> simp [h, h2]
end
theorem eqvInts (a b : List Int) : PyData.eqv (toD (.lst (a.map A.int))) (toD (.lst (b.map A.int))) = decide (a = b) := by
  simp only [toD, PyData.eqv]; exact eqvInts_ a b
end D

namespace D
open PySem PySem.Spec PyProof.Rows L2
section
variable {B : Bs} {X : Cx} {Γ : G} {μ : Mu} {Q : A → Mu → Prop} {QB : Bool → Mu → Prop} {o e a b c : Expr} {apos cpos pos : Pos}
theorem RepL.dropLast {K : PySem.W.Frag} {F : Hp} {xs : List A} {vs : List V} (h : RepL K F xs vs) : RepL K F xs.dropLast vs.dropLast := by
  rw [List.dropLast_eq_take, List.dropLast_eq_take, h.len]; exact h.take _
theorem wE_pop (h : wE B X o Γ μ fun x μ1 => ∃ p ys y, x = .loc p ∧ μ1 p = some (.lst (ys ++ [y])) ∧ Q y (μ1.upd p (.lst ys)))
    (hbase : attributeBase o "pop" X.env (eval o X.env) = eval o X.env := by rfl)
    (hline : (apos.endLine == cpos.line) = true := by rfl) : wE B X (.Call (.Attribute o "pop" apos) [] [] cpos) Γ μ Q :=
  wE_of (pe_bm0 PySem.F.plainAttrs_list PySem.F.slot_list_pop PySem.F.type_list_pop mt_pop pe_rd hbase hline) fun σ M F H bo rs r => by
  refine (h σ M F H bo rs r).imp fun v H1 ⟨x, F1, μ1, e1, r1, p1, p, ys, y, ex, hp, q1⟩ => ?_
  subst ex; rw [rep_loc] at p1
  obtain ⟨_, ob, k1, vs, rfl, k2⟩ := r1.own p _ hp
  refine ⟨by rw [p1]; exact .inl ⟨rfl, _, .inl (.inl k1)⟩, ?_⟩
  have hl : (ys ++ [y])[vs.length - 1]? = some y := by rw [k2.len]; simp
  obtain ⟨w, g1, g2⟩ := k2.get hl
  refine ⟨p, vs, w, p1, rfl, k1, g1, y, F1, _, e1, r1.write hp (m' := .lst ys) ⟨_, rfl, ?_⟩, g2, q1⟩
  have := RepL.dropLast k2
  rwa [List.dropLast_concat] at this
theorem wE_extend (h : wE B X o Γ μ fun x μ1 => ∃ p ys0, x = .loc p ∧ μ1 p = some (.lst ys0) ∧ wE B X e Γ μ1 fun y μ2 => ∃ ys zs, μ2 p = some (.lst ys) ∧ IsL μ2 y zs ∧ ys.length + zs.length ≤ sizeLine ∧ Q .non (μ2.upd p (.lst (ys ++ zs))))
    (hbase : attributeBase o "extend" X.env (eval o X.env) = eval o X.env := by rfl)
    (hfew : ((backTo cpos (starEach [e] X.env)).all (fun x => !x.1) && (backToKw cpos (keywordEach [] X.env)).all (fun x => x.1.isSome) && decide (([e] : List Expr).length + ([] : List Keyword).length + (if ([] : List Keyword).isEmpty then 0 else 1) < 30)) = true := by rfl)
    (hline : (apos.endLine == cpos.line) = true := by rfl) (hs : starEach [e] X.env = (false, eval e X.env) :: starEach [] X.env := by rfl) (hplain : (backTo cpos (starEach [] X.env)).any (·.1) = false := by rfl) : wE B X (.Call (.Attribute o "extend" apos) [e] [] cpos) Γ μ Q :=
  wE_of (pe_bm PySem.F.plainAttrs_list PySem.F.slot_list_extend PySem.F.type_list_extend mt_extend pe_rd (pa_cons pe_rd pa_nil hs) hbase hfew hline hs hplain) fun σ M F H bo rs r => by
  refine (h σ M F H bo rs r).imp fun v H1 ⟨x, F1, μ1, e1, r1, p1, p, ys0, ex, hp, q1⟩ => ?_
  subst ex; rw [rep_loc] at p1
  obtain ⟨_, ob, k1, vs, rfl, k2⟩ := r1.own p _ hp
  refine ⟨by rw [p1]; exact .inl ⟨rfl, _, .inl (.inl k1)⟩, ?_⟩
  refine (q1 σ M F1 H1 (bo.mono e1) (rs.mono e1) r1).imp fun w H2 ⟨y, F2, μ2, e2, r2, p2, ys, zs, hq, hy, hz, q2⟩ => ?_
  obtain ⟨_, ob, k3, ws, rfl, k4⟩ := r2.own p _ hq
  obtain ⟨b, us, rfl, h1, h2⟩ := hy.rep r2 p2
  exact ⟨p, b, ws, us, p1, rfl, k3, h1, by rw [k4.len, h2.len]; exact hz, _, F2, _, e1.trans e2, r2.write hq (m' := .lst (ys ++ zs)) ⟨_, rfl, k4.append h2⟩, rep_non.mpr rfl, q2⟩
theorem wE_removeI (h : wE B X o Γ μ fun x μ1 => ∃ p ys0, x = .loc p ∧ μ1 p = some (.lst ys0) ∧ wE B X e Γ μ1 fun y μ2 => ∃ (ns : List Int) (k : Int), y = .int k ∧ μ2 p = some (.lst (ns.map A.int)) ∧ k ∈ ns ∧ Q .non (μ2.upd p (.lst ((ns.erase k).map A.int))))
    (hbase : attributeBase o "remove" X.env (eval o X.env) = eval o X.env := by rfl)
    (hfew : ((backTo cpos (starEach [e] X.env)).all (fun x => !x.1) && (backToKw cpos (keywordEach [] X.env)).all (fun x => x.1.isSome) && decide (([e] : List Expr).length + ([] : List Keyword).length + (if ([] : List Keyword).isEmpty then 0 else 1) < 30)) = true := by rfl)
    (hline : (apos.endLine == cpos.line) = true := by rfl) (hs : starEach [e] X.env = (false, eval e X.env) :: starEach [] X.env := by rfl) (hplain : (backTo cpos (starEach [] X.env)).any (·.1) = false := by rfl) : wE B X (.Call (.Attribute o "remove" apos) [e] [] cpos) Γ μ Q :=
  wE_of (pe_bm PySem.F.plainAttrs_list PySem.F.slot_list_remove PySem.F.type_list_remove mt_remove pe_rd (pa_cons pe_rd pa_nil hs) hbase hfew hline hs hplain) fun σ M F H bo rs r => by
  refine (h σ M F H bo rs r).imp fun v H1 ⟨x, F1, μ1, e1, r1, p1, p, ys0, ex, hp, q1⟩ => ?_
  subst ex; rw [rep_loc] at p1
  obtain ⟨_, ob, k1, vs, rfl, k2⟩ := r1.own p _ hp
  refine ⟨by rw [p1]; exact .inl ⟨rfl, _, .inl (.inl k1)⟩, ?_⟩
  refine (q1 σ M F1 H1 (bo.mono e1) (rs.mono e1) r1).imp fun w H2 ⟨y, F2, μ2, e2, r2, p2, ns, k, ey, hq, hk, q2⟩ => ?_
  subst ey; rw [rep_int] at p2; subst p2
  obtain ⟨_, ob, k3, ws, rfl, k4⟩ := r2.own p _ hq
  have e9 := repL_ints k4
  subst e9
  obtain ⟨j, _, j1, j2, j3⟩ := first_at hk
  refine ⟨p, ns, k, j, p1, rfl, k3, j1, j2, ?_⟩
  rw [j3]
  exact ⟨_, F2, _, e1.trans e2, r2.write hq (m' := .lst ((ns.erase k).map A.int)) ⟨_, rfl, .map (fun i => rep_int.mpr rfl) _⟩, rep_non.mpr rfl, q2⟩
theorem wT_chain2 {op op' : CmpOp} (h : wE B X a Γ μ fun x μ1 => wE B X b Γ μ1 fun y μ2 => wO X (compareOp op) x y μ2 fun z μ3 => ∃ k, z = .bl k ∧ (k = true → wE B X c Γ μ3 fun w μ4 => wO X (compareOp op') y w μ4 fun z μ5 => ∃ k, z = .bl k ∧ QB k μ5) ∧ (k = false → QB false μ3))
    (hm : lastMarks [op, op'] [b, c] = false := by with_unfolding_all rfl) : wT B X (.Compare a [op, op'] [b, c] pos) Γ μ QB := wT_of (pt_chain opr_rd opr_rd pe_rd pe_rd pe_rd hm) fun σ M F H bo rs r => by
  refine (h σ M F H bo rs r).imp fun v H1 ⟨x, F1, μ1, e1, r1, p1, q1⟩ => ?_
  refine (q1 σ M F1 H1 (bo.mono e1) (rs.mono e1) r1).imp fun w H2 ⟨y, F2, μ2, e2, r2, p2, q2⟩ => ?_
  refine ⟨fun pins s σ' v' u' I hv hw => ?_⟩
  refine thn ((q2 M F2 H2 v w r2 (p1.mono e2) p2).o pins s σ' v' u' I hv hw) fun _ _ ⟨z, H3, I3, r3, x3, F3, μ3, e3, rl3, p3, k, ek, q3, q4⟩ => ?_
  subst ek; rw [rep_bl] at p3
  refine ⟨z, H3, I3, r3, k, p3, ?_⟩
  have e12 := (e1.trans e2).trans e3
  cases k with
  | false => exact iteF ⟨false, rfl, F3, μ3, e12, rl3, q4 rfl⟩
  | true =>
    refine iteT ((q3 rfl σ M F3 H3 (bo.mono e12) (rs.mono e12) rl3).imp fun w' H4 ⟨y', F4, μ4, e4, r4, p4, q5⟩ => ?_)
    refine ⟨fun pins s σ' v' u' I hv hw => ?_⟩
    exact thn ((q5 M F4 H4 w w' r4 (p2.mono (e3.trans e4)) p4).o pins s σ' v' u' I hv hw) fun _ _ ⟨z', H5, I5, r5, x5, F5, μ5, e5, rl5, p5, k', ek', q6⟩ => by
      subst ek'; rw [rep_bl] at p5
      exact ⟨z', H5, I5, r5, k', p5, F5, μ5, (e12.trans e4).trans e5, rl5, q6⟩
end
end D

namespace D
open PySem PySem.Spec PyProof.Rows L2
section
variable {B : Bs} {X : Cx} {Γ : G} {μ : Mu} {Q : A → Mu → Prop} {o e : Expr} {apos pos : Pos}
def rdM (X : Cx) (id : String) : V → List V → Hp → VK → Prop := fun x xs H Q => Bx (∀ (pins : List (Addr × Obj)) (s : Shared) (σ : L2.St) (v : Value) (us : List Value), Inv X pins σ H s → RelV x v → Vals xs us → wpAny (model X.prog X.w) X.A (call (.builtin id) (v :: us)) (EP X pins σ Q) X.xe s)
theorem mtr_rd {id : String} : MtR X id (rdM X id) := fun pins s σ H x xs v us Q I rx rs h => h.o pins s σ v us I rx rs
def wM (X : Cx) (id : String) (x : A) (xs : List A) (μ : Mu) (Q : A → Mu → Prop) : Prop := ∀ M F H v vs, Rel X.K μ M F H → Rep X.K F x v → RepL X.K F xs vs → rdM X id v vs H (QE X.K M F Q)
theorem wM_of {id : String} {r : V → List V → Hp → VK → Prop} {x : A} {xs : List A} (h : MtR X id r) (q : ∀ M F H v vs, Rel X.K μ M F H → Rep X.K F x v → RepL X.K F xs vs → r v vs H (QE X.K M F Q)) : wM X id x xs μ Q :=
  fun M F H v vs rl r1 r2 => ⟨fun pins s σ v' us I rx rs => h pins s σ H v vs v' us _ I rx rs (q M F H v vs rl r1 r2)⟩
theorem wE_m0 {id : String} {name : Str} (slot : Slot "str" name id) (ty : typeOf (.builtin id) = pure (.type "method_descriptor")) (h : wE B X o Γ μ fun x μ1 => ∃ a, x = .str a ∧ wM X id (.str a) [] μ1 Q)
    (hbase : attributeBase o name X.env (eval o X.env) = eval o X.env := by rfl) (hline : (apos.endLine == pos.line) = true := by rfl) : wE B X (.Call (.Attribute o name apos) [] [] pos) Γ μ Q := wE_of (pe_m0 slot ty mtr_rd pe_rd hbase hline) fun σ M F H bo rs r => by
  refine (h σ M F H bo rs r).imp fun v H1 ⟨x, F1, μ1, e1, r1, p1, a, ex, q1⟩ => ?_
  subst ex
  refine ⟨⟨a, rep_str.mp p1⟩, ?_⟩
  refine ⟨fun pins s σ' v' us I rx rs' => ?_⟩
  exact thn ((q1 M F1 H1 v [] r1 p1 .nil).o pins s σ' v' us I rx rs') fun _ _ ⟨z, H2, I2, r2, q2⟩ => ⟨z, H2, I2, r2, q2.mono e1⟩
theorem wE_m1 {id : String} {name : Str} (slot : Slot "str" name id) (ty : typeOf (.builtin id) = pure (.type "method_descriptor")) (h : wE B X o Γ μ fun x μ1 => ∃ a, x = .str a ∧ wE B X e Γ μ1 fun y μ2 => wM X id (.str a) [y] μ2 Q)
    (hs : starEach [e] X.env = [(false, eval e X.env)] := by rfl) (hbase : attributeBase o name X.env (eval o X.env) = eval o X.env := by rfl) (hline : (apos.endLine == pos.line) = true := by rfl) : wE B X (.Call (.Attribute o name apos) [e] [] pos) Γ μ Q :=
  wE_of (pe_m1 slot ty mtr_rd pe_rd pe_rd hs hbase hline) fun σ M F H bo rs r => by
  refine (h σ M F H bo rs r).imp fun v H1 ⟨x, F1, μ1, e1, r1, p1, a, ex, q1⟩ => ?_
  subst ex
  refine ⟨⟨a, rep_str.mp p1⟩, ?_⟩
  refine (q1 σ M F1 H1 (bo.mono e1) (rs.mono e1) r1).imp fun w H2 ⟨y, F2, μ2, e2, r2, p2, q2⟩ => ?_
  refine ⟨fun pins s σ' v' us I rx rs' => ?_⟩
  exact thn ((q2 M F2 H2 v [w] r2 (p1.mono e2) (.cons p2 .nil)).o pins s σ' v' us I rx rs') fun _ _ ⟨z, H3, I3, r3, q3⟩ => ⟨z, H3, I3, r3, q3.mono (e1.trans e2)⟩
theorem wM_tt {id : String} {g : Str → Str → V} {f : Str → Str → A} {a b : Str} (h : MtR X id (fun x xs H Q => ∃ a b, x = .str a ∧ xs = [.str b] ∧ Q (g a b) H)) (hf : ∀ F, Rep X.K F (f a b) (g a b)) (q : Q (f a b) μ) : wM X id (.str a) [.str b] μ Q := wM_of h fun M F H v vs rl r1 r2 => by
  obtain ⟨w, rfl, r3⟩ := r2.one
  exact ⟨a, b, rep_str.mp r1, by rw [rep_str.mp r3], .pure rl (hf F) q⟩
theorem wM_startswith {a b : Str} (q : Q (.bl (Txt.startswith a b)) μ) : wM X "str.startswith" (.str a) [.str b] μ Q := wM_tt (f := fun a b => .bl (Txt.startswith a b)) mt_startswith (fun F => rep_bl.mpr rfl) q
theorem wM_endswith {a b : Str} (q : Q (.bl (Txt.endswith a b)) μ) : wM X "str.endswith" (.str a) [.str b] μ Q := wM_tt (f := fun a b => .bl (Txt.endswith a b)) mt_endswith (fun F => rep_bl.mpr rfl) q
theorem wM_partition {a b : Str} (hb : (b.length == 0) = false) (hz : a.length ≤ sizeLine) (q : Q (.tup [.str (Txt.partition a b).1, .str (Txt.partition a b).2.1, .str (Txt.partition a b).2.2]) μ) : wM X "str.partition" (.str a) [.str b] μ Q := wM_of mt_partition fun M F H v vs rl r1 r2 => by
  obtain ⟨w, rfl, r3⟩ := r2.one
  refine ⟨a, b, rep_str.mp r1, by rw [rep_str.mp r3], hb, hz, fun p np => ?_⟩
  obtain ⟨ex, rl'⟩ := rl.newF (o := .tup [.str (Txt.partition a b).1, .str (Txt.partition a b).2.1, .str (Txt.partition a b).2.2]) np
  exact ⟨_, _, _, ex, rl', rep_tup.mpr ⟨p, _, rfl, .inl (.inl upd_same), .cons (rep_str.mpr rfl) (.cons (rep_str.mpr rfl) (.cons (rep_str.mpr rfl) .nil))⟩, q⟩
theorem repL_mkS {K : PySem.W.Frag} {F : Hp} (ys : List Str) : RepL K F (ys.map A.str) (ys.map V.str) := by
  induction ys with
  | nil => exact .nil
  | cons y ys ih => exact .cons (rep_str.mpr rfl) ih
theorem wM_split {a b : Str} (hb : (b.length == 0) = false) (hz : a.length + 2 ≤ sizeLine) (q : Q (.lst ((Txt.split a b).map A.str)) μ) : wM X "str.split" (.str a) [.str b] μ Q := wM_of mt_split fun M F H v vs rl r1 r2 => by
  obtain ⟨w, rfl, r3⟩ := r2.one
  refine ⟨a, b, rep_str.mp r1, by rw [rep_str.mp r3], hb, hz, fun p np => ?_⟩
  obtain ⟨ex, rl'⟩ := rl.newF (o := .lst ((Txt.split a b).map V.str)) np
  exact ⟨_, _, _, ex, rl', rep_lst.mpr ⟨p, _, rfl, upd_same, repL_mkS _⟩, q⟩
theorem wM_words {a : Str} (hz : a.length + 2 ≤ sizeLine) (q : Q (.lst ((Txt.words a).map A.str)) μ) : wM X "str.split" (.str a) [] μ Q := wM_of mt_words fun M F H v vs rl r1 r2 => by
  refine ⟨a, rep_str.mp r1, by simpa [RepL] using r2, hz, fun p np => ?_⟩
  obtain ⟨ex, rl'⟩ := rl.newF (o := .lst ((Txt.words a).map V.str)) np
  exact ⟨_, _, _, ex, rl', rep_lst.mpr ⟨p, _, rfl, upd_same, repL_mkS _⟩, q⟩
theorem wM_join {a : Str} {x : A} {ys : List Str} (hx : IsL μ x (ys.map A.str) ∨ x = .tup (ys.map A.str)) (hz : (ys.map (·.length)).sum + ys.length * a.length ≤ 16777216) (q : Q (.str (Txt.join a ys)) μ) : wM X "str.join" (.str a) [x] μ Q := wM_of mt_join fun M F H v vs rl r1 r2 => by
  obtain ⟨w, rfl, r3⟩ := r2.one
  rcases hx with hx | rfl
  · obtain ⟨p, ws, rfl, h1, h2⟩ := hx.rep rl r3
    rw [repL_strs h2] at h1
    exact ⟨a, p, ys, rep_str.mp r1, rfl, .inl (.inl (.inl h1)), hz, .pure rl (rep_str.mpr rfl) q⟩
  · rw [rep_tup] at r3
    obtain ⟨p, ws, rfl, h1, h2⟩ := r3
    rw [repL_strs h2] at h1
    exact ⟨a, p, ys, rep_str.mp r1, rfl, .inr (rl.sub.t h1), hz, .pure rl (rep_str.mpr rfl) q⟩
theorem wM_strip {a : Str} (hz : a.length ≤ sizeLine) (q : Q (.str (Txt.strip a)) μ) : wM X "str.strip" (.str a) [] μ Q := wM_of mt_strip fun M F H v vs rl r1 r2 => ⟨a, rep_str.mp r1, by simpa [RepL] using r2, hz, .pure rl (rep_str.mpr rfl) q⟩
theorem wC_intS {a : Str} {n : Int} (hn : PySem.intText? a = some n) (hl : a.length ≤ 640) (q : Q (.int n) μ) : wC X (.type "int") [.str a] μ Q := wC_of call_int_str fun M F H vs rl r => by
  obtain ⟨v, rfl, h⟩ := r.one; rw [rep_str] at h; subst h
  exact ⟨a, n, rfl, hn, hl, .pure rl (rep_int.mpr rfl) q⟩
end
end D

namespace D
open PySem PySem.Spec PyProof.Rows L2
theorem log2_100 {i : Int} (h0 : 0 < i) (h1 : i < 2 ^ 100) : i.natAbs.log2 < 9000 := by
  have : i.natAbs < 2 ^ 100 := by omega
  exact Nat.lt_of_lt_of_le ((Nat.log2_lt (by omega)).mpr this) (by decide)
def Bd (n : Nat) (i : Int) : Prop := i.natAbs < 2 ^ n
theorem Bd.mono {n m : Nat} {i : Int} (h : Bd n i) (hm : n ≤ m) : Bd m i := Nat.lt_of_lt_of_le h (Nat.pow_le_pow_right (by decide) hm)
theorem Bd.mul {n m : Nat} {i j : Int} (hi : Bd n i) (hj : Bd m j) : Bd (n + m) (i * j) := by
  unfold Bd; rw [Int.natAbs_mul, Nat.pow_add]; exact Nat.mul_lt_mul'' hi hj
theorem Bd.add {n : Nat} {i j : Int} (hi : Bd n i) (hj : Bd n j) : Bd (n + 1) (i + j) := by
  unfold Bd at *; rw [Nat.pow_succ]; omega
theorem Bd.sub {n : Nat} {i j : Int} (hi : Bd n i) (hj : Bd n j) : Bd (n + 1) (i - j) := by
  unfold Bd at *; rw [Nat.pow_succ]; omega
theorem Bd.log {n : Nat} {i : Int} (h : Bd n i) (hn : 0 < n) : i.natAbs.log2 < n := by
  rcases Nat.eq_zero_or_pos i.natAbs with h0 | h0
  · rw [h0]; simpa using hn
  · exact (Nat.log2_lt (by omega)).mpr h
theorem Bd.of {n : Nat} {i : Int} (h1 : -(2 ^ n : Nat) < i) (h2 : i < (2 ^ n : Nat)) : Bd n i := by unfold Bd; omega
theorem Bd.mulOk {n : Nat} {i j : Int} (hi : Bd n i) (hj : Bd n j) (hn : n ≤ 2 ^ 20) : IntMulOk i j := by
  have key : ∀ {x : Int}, Bd n x → Builtin.Int.intBits x ≤ 2 ^ 20 := fun {x} hx => by
    unfold Builtin.Int.intBits
    split
    · decide
    · rename_i h
      have h0 : x.natAbs ≠ 0 := by simpa using h
      have := (Nat.log2_lt h0).mpr hx
      omega
  exact IntMulOk.of_bits (key hi) (key hj)
theorem Bd.noPy {n : Nat} {i j : Int} (hj : Bd n j) (hn : n ≤ 9000) (h0 : 0 < n) : Builtin.divisionGoesByPylong i j = false := PyProof.noPylong_of_log2 (Nat.lt_of_lt_of_le (hj.log h0) hn)
def part (n d : Int) : Int := if 0 < d then (Int.gcd n d : Int) else 0 - (Int.gcd n d : Int)
def lowN (n d : Int) : Int := n.fdiv (part n d)
def lowD (n d : Int) : Int := d.fdiv (part n d)
def low (n d : Int) : A := .tup [.int (lowN n d), .int (lowD n d)]
theorem part_ne {n d : Int} (h : d ≠ 0) : part n d ≠ 0 := by
  have : 0 < Int.gcd n d := Int.gcd_pos_of_ne_zero_right _ h
  unfold part; split <;> omega
theorem part_bd {n d : Int} {k : Nat} (h : d ≠ 0) (hd : Bd k d) : Bd k (part n d) := by
  have h1 : Int.gcd n d ≤ d.natAbs := Nat.le_of_dvd (by omega) (Int.gcd_dvd_natAbs_right n d)
  unfold Bd at *
  have : (part n d).natAbs = Int.gcd n d := by unfold part; split <;> omega
  omega
theorem part_n {n d : Int} : part n d ∣ n := by
  have := Int.gcd_dvd_left n d
  unfold part; split
  · exact this
  · rw [show (0 : Int) - (Int.gcd n d : Int) = -(Int.gcd n d : Int) by omega]; exact (Int.neg_dvd).mpr this
theorem part_d {n d : Int} : part n d ∣ d := by
  have := Int.gcd_dvd_right n d
  unfold part; split
  · exact this
  · rw [show (0 : Int) - (Int.gcd n d : Int) = -(Int.gcd n d : Int) by omega]; exact (Int.neg_dvd).mpr this
theorem lowN_eq {n d : Int} (h : d ≠ 0) : lowN n d * part n d = n := by unfold lowN; rw [Int.fdiv_eq_ediv_of_dvd part_n, Int.ediv_mul_cancel part_n]
theorem lowD_eq {n d : Int} (h : d ≠ 0) : lowD n d * part n d = d := by unfold lowD; rw [Int.fdiv_eq_ediv_of_dvd part_d, Int.ediv_mul_cancel part_d]
end D
namespace D
open PySem PySem.Spec PyProof.Rows L2
structure Fr (n d : Int) : Prop where
  pos : 0 < d
  low : Int.gcd n d = 1
theorem part_pos {n d : Int} (h : 0 < d) : part n d = (Int.gcd n d : Int) := by unfold part; rw [if_pos h]
theorem low_fr {n d : Int} (h : 0 < d) : Fr (lowN n d) (lowD n d) := by
  have hg : 0 < Int.gcd n d := Int.gcd_pos_of_ne_zero_right _ (by omega)
  have e1 : lowN n d = n / (Int.gcd n d : Int) := by unfold lowN; rw [Int.fdiv_eq_ediv_of_dvd part_n, part_pos h]
  have e2 : lowD n d = d / (Int.gcd n d : Int) := by unfold lowD; rw [Int.fdiv_eq_ediv_of_dvd part_d, part_pos h]
  refine ⟨?_, by rw [e1, e2]; exact Int.gcd_ediv_gcd_ediv_gcd hg⟩
  have h2 := lowD_eq (n := n) (d := d) (by omega)
  rw [part_pos h] at h2
  refine Int.pos_of_mul_pos_left (b := (Int.gcd n d : Int)) ?_ (by omega)
  omega
theorem lowN_le {n d : Int} (h : d ≠ 0) : (lowN n d).natAbs ≤ n.natAbs := by
  have h1 := lowN_eq (n := n) h
  have h2 : 0 < (part n d).natAbs := by have := part_ne (n := n) h; omega
  have e : n.natAbs = (lowN n d).natAbs * (part n d).natAbs := by rw [← Int.natAbs_mul, h1]
  rw [e]; exact Nat.le_mul_of_pos_right _ h2
theorem lowD_le {n d : Int} (h : d ≠ 0) : (lowD n d).natAbs ≤ d.natAbs := by
  have h1 := lowD_eq (n := n) h
  have h2 : 0 < (part n d).natAbs := by have := part_ne (n := n) h; omega
  have e : d.natAbs = (lowD n d).natAbs * (part n d).natAbs := by rw [← Int.natAbs_mul, h1]
  rw [e]; exact Nat.le_mul_of_pos_right _ h2
theorem low_of {n d k : Int} (h : Fr n d) (hk : 0 < k) : low (n * k) (d * k) = .tup [.int n, .int d] := by
  have hd : 0 < d * k := Int.mul_pos h.pos hk
  have g : (Int.gcd (n * k) (d * k) : Int) = k := by rw [Int.gcd_mul_right, h.low]; omega
  have p : part (n * k) (d * k) = k := by rw [part_pos hd, g]
  unfold low lowN lowD
  rw [p, Int.fdiv_eq_ediv_of_dvd ⟨n, Int.mul_comm _ _⟩, Int.fdiv_eq_ediv_of_dvd ⟨d, Int.mul_comm _ _⟩, Int.mul_ediv_cancel _ (by omega), Int.mul_ediv_cancel _ (by omega)]
end D

namespace D
open PySem PySem.Spec PyProof.Rows L2
section
variable {P : Program} {w : World} {mg : Str → Option Value} {base : Heap} {K : PySem.W.Frag}
theorem fnDD {x qual : Str} {st : Stmt} {f : Addr} {fd : FuncData} {N ps : List Str} {k : Nat} {c : AC} {dvs : List V} {kws : List (Str × V)} (F : FunD K x qual (defArgs st) (defBody st) (defScope st) dvs kws f fd) (S : FnScope N ps (defScope st)) (len : ∀ xs μ Q E, c xs μ Q E → xs.length = ps.length)
    (go : ∀ {B : Bs} (cdv : Value) (A : Around) (outer : List Env) (s : Shared) (H : Hp) (E : XK) (xs : List D.A) (μ : Mu) (Q : D.A → Mu → Prop) (E0 : Value → Option Addr → Mu → Prop), Ar (cx0 P w K mg base N qual (defScope st) f cdv A outer s H E) k → c xs μ Q E0 →
      wSs B (cx0 P w K mg base N qual (defScope st) f cdv A outer s H E) (defBody st) (startA N xs) μ { nx := fun _ μ' => Q .non μ', rt := Q }) : FnD P w K mg base CX0 (k + 1) f fd ps c := by
  obtain ⟨oc, od, dV, kV, doc, pm, an, cdv, ct, osl, rfl, lk, hcd, _, _⟩ := F.ex
  refine FnD.body lk hcd S len fun A outer s H vs Q E room sh sp => rdSs_nox ?_
  obtain ⟨xs, F0, M, μ, Q0, E0, rp, rl, hc, hq, he⟩ := sp
  refine (go cdv A outer s H E xs μ Q0 E0 ⟨room, sh⟩ hc (L2.start N vs) M F0 H (Bs.ok.own M F0) (relS_start N rp) rl).imp (fun σ2 H2 q => ?_) (fun v H2 q => ?_) (fun σ2 H2 q => ?_) (fun σ2 H2 q => ?_)
  · obtain ⟨Γ', F', μ', ex, _, rl', q⟩ := q
    exact hq .non μ' F' H2 .non q ex rl' (rep_non.mpr rfl)
  · obtain ⟨y, F', μ', ex, rl', rp', q⟩ := q
    exact hq y μ' F' H2 v q ex rl' rp'
  · obtain ⟨_, _, _, _, _, _, q⟩ := q; exact q
  · obtain ⟨_, _, _, _, _, _, q⟩ := q; exact q
theorem fund_mk {x qual : Str} {st : Stmt} {f T : Addr} {oc tc : Value} {od an td : Option Addr} {osl tsl : Array (Option Value)} {kV doc pm cdv ct : Value} {its : Array Value} {n : Nat} {dvs : List V}
    (l : K.lookup f = some ⟨oc, od, .func (PySem.W.fnOf x qual (defArgs st) (defBody st) (defScope st) (.ref T) kV doc pm an cdv ct), osl⟩)
    (c : PySem.W.codeIn K cdv qual = true) (k : PySem.W.keepIn K (.ref f) = true) (lT : K.lookup T = some ⟨tc, td, .seq its n, tsl⟩) (hv : Vals dvs its.toList) (hd : dvs ≠ []) :
    FunD K x qual (defArgs st) (defBody st) (defScope st) dvs [] f (PySem.W.fnOf x qual (defArgs st) (defBody st) (defScope st) (.ref T) kV doc pm an cdv ct) :=
  ⟨⟨oc, od, .ref T, kV, doc, pm, an, cdv, ct, osl, rfl, l, c, .inr ⟨hd, T, _, its.toList, n, rfl, lT, rfl, hv⟩, .inl rfl⟩, k⟩
def strOf : Value → Option Str
  | .str x _ => some x
  | _ => none
def intOf : Value → Option Int
  | .int i _ => some i
  | _ => none
theorem vals_by {α : Type} {f : Value → Option α} {g : α → V} (hf : ∀ u x, f u = some x → RelV (g x) u) : ∀ (us : List Value) (ws : List α), us.map f = ws.map some → Vals (ws.map g) us := by
  intro us
  induction us with
  | nil => intro ws e; cases ws <;> first | exact .nil | simp at e
  | cons u us ih =>
    intro ws e
    cases ws with
    | nil => simp at e
    | cons x ws =>
      have e2 : f u = some x ∧ us.map f = ws.map some := by simpa using e
      exact .cons (hf u x e2.1) (ih ws e2.2)
theorem vals_strs {us : List Value} {ws : List Str} (e : us.map strOf = ws.map some) : Vals (ws.map V.str) us :=
  vals_by (f := strOf) (g := V.str) (fun u x q => by cases u <;> simp [strOf] at q <;> exact q ▸ ⟨_, rfl⟩) us ws e
theorem vals_nums {us : List Value} {ws : List Int} (e : us.map intOf = ws.map some) : Vals (ws.map V.int) us :=
  vals_by (f := intOf) (g := V.int) (fun u x q => by cases u <;> simp [intOf] at q <;> exact q ▸ ⟨_, rfl⟩) us ws e
theorem kn_int {h : Heap} {x : Str} {i : Int} {t : Tok} (X : K.In h) (G : h.Ns mainGlobals mg) (q : PySem.W.nsIn K mainGlobals x = some (some (.int i t))) : Kn K mg x (.int i) := ⟨.int i, _, PySem.W.mg_of X G q, ⟨_, rfl⟩, fun F => rep_int.mpr rfl⟩
theorem kn_str {h : Heap} {x y z : Str} {t : Tok} (X : K.In h) (G : h.Ns mainGlobals mg) (q : PySem.W.nsIn K mainGlobals x = some (some (.str y t))) (e : y = z) : Kn K mg x (.str z) := by
  subst e
  exact ⟨.str y, _, PySem.W.mg_of X G q, ⟨_, rfl⟩, fun F => rep_str.mpr rfl⟩
theorem repL_strs' {F : Hp} (ws : List Str) : RepL K F (ws.map A.str) (ws.map V.str) := .map (fun w => rep_str.mpr rfl) ws
theorem kn_strs {h : Heap} {x : Str} {p : Addr} {its : Array Value} {n : Nat} {sl : Array (Option Value)} {od : Option Addr} {ws : List Str} (X : K.In h) (G : h.Ns mainGlobals mg) (q : PySem.W.nsIn K mainGlobals x = some (some (.ref p)))
    (l : K.lookup p = some ⟨.type "tuple", od, .seq its n, sl⟩) (e : its.toList.map strOf = ws.map some) (hz : ws.length ≤ 1000) : Kn K mg x (.tup (ws.map A.str)) := by
  have hv := vals_strs e
  have hl : its.size = ws.length := by have := congrArg List.length e; simpa using this
  exact ⟨.ref p, _, PySem.W.mg_of X G q, rfl, fun F => rep_tup.mpr ⟨p, ws.map V.str, rfl, .inr ⟨_, its, n, l, rfl, rfl, by rw [hl]; exact Nat.le_trans hz (by decide), hv⟩, repL_strs' ws⟩⟩
end
end D

namespace D
open PySem PySem.Spec PyProof.Rows L2
section
variable {K : PySem.W.Frag} {F : Hp} {f : Str}
theorem lookup_some : ∀ {fs : List (Str × A)} {ws : List (Str × V)} {y : A}, RepK K F fs ws → fs.lookup f = some y → ∃ v, ws.lookup f = some v ∧ Rep K F y v
  | [], _, _, _, e => by simp at e
  | (g, x) :: r, _, y, ⟨v, t, h1, h2, h3⟩, e => by
    subst h1
    rw [List.lookup_cons] at e ⊢
    cases hg : f == g with
    | true => rw [hg] at e; cases e; exact ⟨v, rfl, h2⟩
    | false => rw [hg] at e; exact lookup_some h3 e
theorem lookup_none : ∀ {fs : List (Str × A)} {ws : List (Str × V)}, RepK K F fs ws → fs.lookup f = none → ws.lookup f = none
  | [], _, h, _ => by rw [show _ = [] from h]; rfl
  | (g, x) :: r, _, ⟨v, t, h1, h2, h3⟩, e => by
    subst h1
    rw [List.lookup_cons] at e ⊢
    cases hg : f == g with
    | true => rw [hg] at e; cases e
    | false => rw [hg] at e; exact lookup_none h3 e
def putL (f : Str) (y : A) : List (Str × A) → List (Str × A)
  | [] => [(f, y)]
  | (g, x) :: r => if g = f then (g, y) :: r else (g, x) :: putL f y r
theorem putL_rep {y : A} {v : V} (hy : Rep K F y v) : ∀ {fs : List (Str × A)} {ws : List (Str × V)}, RepK K F fs ws → RepK K F (putL f y fs) (putF f v ws)
  | [], _, h => by rw [show _ = [] from h]; exact ⟨v, [], rfl, hy, rfl⟩
  | (g, x) :: r, _, ⟨u, t, h1, h2, h3⟩ => by
    subst h1
    by_cases hg : g = f
    · simp only [putL, putF, if_pos hg]; exact ⟨v, t, rfl, hy, h3⟩
    · simp only [putL, putF, if_neg hg]; exact ⟨u, _, rfl, h2, putL_rep hy h3⟩
end
section
variable {B : Bs} {X : Cx} {Γ : G} {μ : Mu} {Q : A → Mu → Prop} {Z : AD} {a b c e o value : Expr} {es : List Expr} {pos apos tpos p0 : Pos} {f m : Str} {C : Addr} {j k : Nat} {cc : AC}
theorem wE_fld (cl : Cls X.K C) (n : NoAttr X.K C f) (h : wE B X e Γ μ fun x μ1 => ∃ p dx fs y, x = .loc p ∧ μ1 p = some (.ins C dx fs) ∧ fs.lookup f = some y ∧ Q y μ1) (hb : attributeBase e f X.env (eval e X.env) = eval e X.env := by rfl) : wE B X (.Attribute e f pos) Γ μ Q := wE_of (pe_fld pe_rd hb) fun σ M F H bo rs r => by
  refine (h σ M F H bo rs r).imp fun v H1 ⟨x, F1, μ1, e1, r1, p1, p, dx, fs, y, ex, hp, hl, q1⟩ => ?_
  subst ex; rw [rep_loc] at p1
  obtain ⟨_, ob, g1, ws, rfl, g2⟩ := r1.own p _ hp
  obtain ⟨v1, k1, k2⟩ := lookup_some g2 hl
  exact ⟨p, C, dx, ws, v1, p1, g1, cl, n, k1, y, F1, μ1, e1, r1, k2, q1⟩
theorem wS_fld (cl : Cls X.K C) (n : NoAttr X.K C f) (h : wE B X value Γ μ fun y μ1 => wE B X o Γ μ1 fun x μ2 => ∃ p dx fs, x = .loc p ∧ μ2 p = some (.ins C dx fs) ∧ fs.length < 1000 ∧ Z.nx Γ (μ2.upd p (.ins C dx (putL f y fs))))
    (hs : swapsWith value (some (.Attribute o f apos)) pos.line X.env = pure false := by rfl) : wS B X (.Assign [.Attribute o f apos] value pos) Γ μ Z := wS_of (ps_fld pe_rd pe_rd hs) fun σ M F H bo rs r => by
  refine (h σ M F H bo rs r).imp fun v H1 ⟨y, F1, μ1, e1, r1, p1, q1⟩ => ?_
  refine (q1 σ M F1 H1 (bo.mono e1) (rs.mono e1) r1).imp fun w H2 ⟨x, F2, μ2, e2, r2, p2, p, dx, fs, ex, hp, hl, q2⟩ => ?_
  subst ex; rw [rep_loc] at p2
  obtain ⟨_, ob, g1, ws, rfl, g2⟩ := r2.own p _ hp
  exact ⟨p, C, dx, ws, p2, g1, cl, n, by rw [g2.len]; exact hl, Γ, F2, _, e1.trans e2, rs.mono (e1.trans e2), r2.write hp (m' := .ins C dx (putL f y fs)) ⟨_, rfl, putL_rep (p1.mono e2) g2⟩, q2⟩
theorem wS_fldadd (cl : Cls X.K C) (n : NoAttr X.K C f) (h : wE B X o Γ μ fun x μ1 => ∃ p dx fs i, x = .loc p ∧ μ1 p = some (.ins C dx fs) ∧ fs.lookup f = some (.int i) ∧
      wE B X value Γ μ1 fun y μ2 => ∃ j dx' fs', y = .int j ∧ μ2 p = some (.ins C dx' fs') ∧ fs'.length < 1000 ∧ Z.nx Γ (μ2.upd p (.ins C dx' (putL f (.int (i + j)) fs')))) : wS B X (.AugAssign (.Attribute o f tpos) .Add value pos) Γ μ Z := wS_of (ps_fldaug pe_rd pe_rd in_add) fun σ M F H bo rs r => by
  refine (h σ M F H bo rs r).imp fun v H1 ⟨x, F1, μ1, e1, r1, p1, p, dx, fs, i, ex, hp, hl, q1⟩ => ?_
  subst ex; rw [rep_loc] at p1
  obtain ⟨_, ob, g1, ws, rfl, g2⟩ := r1.own p _ hp
  obtain ⟨v1, k1, k2⟩ := lookup_some g2 hl
  rw [rep_int] at k2; subst k2
  refine ⟨p, C, dx, ws, _, p1, g1, cl, n, k1, ?_⟩
  refine (q1 σ M F1 H1 (bo.mono e1) (rs.mono e1) r1).imp fun w H2 ⟨y, F2, μ2, e2, r2, p2, j, dx', fs', ey, hp', hl', q2⟩ => ?_
  subst ey; rw [rep_int] at p2
  obtain ⟨_, ob', g1', ws', rfl, g2'⟩ := r2.own p _ hp'
  exact ⟨i, j, rfl, p2, dx', ws', g1', by rw [g2'.len]; exact hl', Γ, F2, _, e1.trans e2, rs.mono (e1.trans e2), r2.write hp' (m' := .ins C dx' (putL f (.int (i + j)) fs')) ⟨_, rfl, putL_rep (rep_int.mpr rfl) g2'⟩, q2⟩
structure CalM (P : Program) (w : World) (K : PySem.W.Frag) (mg : Str → Option Value) (base : Heap) (k : Nat) (C : Addr) (m : Str) (c : AC) : Prop where
  ex : ∃ (f : Addr) (fd : FuncData) (ps : List Str), FnD P w K mg base CX0 k f fd ps c ∧ Meth K C m f ∧ Binds K fd ps []
structure CalK (P : Program) (w : World) (K : PySem.W.Frag) (mg : Str → Option Value) (base : Heap) (k : Nat) (x : Str) (C : Addr) (c : AC) : Prop where
  ex : ∃ (f : Addr) (fd : FuncData) (ps : List Str), FnD P w K mg base CX0 k f fd ps c ∧ Mk K C f ∧ mg x = some (.ref C) ∧ Binds K fd ps []
theorem CalM.imp {P : Program} {w : World} {K : PySem.W.Frag} {mg : Str → Option Value} {base : Heap} {c c' : AC} (Dm : CalM P w K mg base k C m c) (h : ∀ xs μ Q E, c' xs μ Q E → c xs μ Q E) : CalM P w K mg base k C m c' := by
  obtain ⟨f, fd, ps, F, r⟩ := Dm.ex
  exact ⟨f, fd, ps, F.imp h, r⟩
theorem wE_meth (cl : Cls X.K C) (Dm : CalM X.prog X.w X.K X.mg X.base k C m cc) (ar : Ar X j) (hk : k ≤ j) (h : wE B X o Γ μ fun x μ1 => ∃ p dx fs, x = .loc p ∧ μ1 p = some (.ins C dx fs) ∧ fs.lookup m = none ∧ wA B X (e :: es) Γ μ1 fun xs μ2 => cc (.loc p :: xs) μ2 Q fun _ _ _ => False)
    {pl : Sem Bool} (hst : starEach (e :: es) X.env = (false, eval e X.env) :: starEach es X.env := by rfl) (hpl : (backTo pos (starEach es X.env)).any (·.1) = false := by rfl)
    (ht : eval (.Call (.Attribute o m apos) (e :: es) [] pos) X.env = (eval o X.env >>= fun a => standAt apos.atName >>= fun _ => (holding [a] (getMethod a m pl) >>= fun g => callWith pos g.1 g.2 (backTo pos (starEach (e :: es) X.env)) (backToKw pos (keywordEach [] X.env)))) := by rfl) : wE B X (.Call (.Attribute o m apos) (e :: es) [] pos) Γ μ Q := by
  obtain ⟨fa, fd, ps, Fn, hm, bi⟩ := Dm.ex
  intro σ M F0 H bo rs rl
  refine ⟨fun pins s I => ?_⟩
  refine PySem.W.methodCall_KW (pl := pl) (thn ((h σ M F0 H bo rs rl).o pins s I) fun u s1 got => ?_) ht
  obtain ⟨v, H1, I1, rv, x, F1, μ1, ex1, r1, p1, p, dx, fs, ex, hp, hl, q1⟩ := got
  subst ex; rw [rep_loc] at p1; subst p1
  obtain rfl : u = Value.ref p := rv
  obtain ⟨_, ob, g1, ws, rfl, g2⟩ := r1.own p _ hp
  refine getmeth_ok I1 g1 cl hm (lookup_none g2 hl) ?_
  refine PySem.W.callWith_K (first := [.ref p]) (h₀ := X.base) I.ok.mod.kin hm.kp (thn ((q1 σ M F1 H1 (bo.mono ex1) (rs.mono ex1) r1).o pos pins s1 I1) fun us s2 got2 => ?_) hst hpl
  obtain ⟨vs, H2, I2, rvs, xs, F2, μ2, ex2, r2, rp, hc⟩ := got2
  refine ⟨I2.kIn, runD (us := .ref p :: us) (vs := .ref p :: vs) (dvs := []) (E := fun _ _ _ => False) Fn (ar.mono hk) bi .nil (fun _ _ _ _ _ _ _ z => z.elim) I2 (.cons rfl rvs) ⟨.loc p :: xs, F2, M, μ2, Q, fun _ _ _ => False, ?_, r2, hc, fun y μ' F' H' v q e1 r1 p1 => ?_, fun _ _ _ _ _ z _ _ => z⟩⟩
  · rw [List.append_nil]; exact .cons (rep_loc.mpr rfl) rp
  · exact ⟨y, F', μ', (ex1.trans ex2).trans e1, r1, p1, q⟩
theorem wE_meth0 (cl : Cls X.K C) (Dm : CalM X.prog X.w X.K X.mg X.base k C m cc) (ar : Ar X j) (hk : k ≤ j) (h : wE B X o Γ μ fun x μ1 => ∃ p dx fs, x = .loc p ∧ μ1 p = some (.ins C dx fs) ∧ fs.lookup m = none ∧ cc [.loc p] μ1 Q fun _ _ _ => False)
    {pl : Sem Bool} (ht : eval (.Call (.Attribute o m apos) [] [] pos) X.env = (eval o X.env >>= fun a => standAt apos.atName >>= fun _ => (holding [a] (getMethod a m pl) >>= fun g => callWith pos g.1 g.2 (backTo pos (starEach [] X.env)) (backToKw pos (keywordEach [] X.env)))) := by rfl) : wE B X (.Call (.Attribute o m apos) [] [] pos) Γ μ Q := by
  obtain ⟨fa, fd, ps, Fn, hm, bi⟩ := Dm.ex
  intro σ M F0 H bo rs rl
  refine ⟨fun pins s I => ?_⟩
  refine PySem.W.methodCall_KW (pl := pl) (thn ((h σ M F0 H bo rs rl).o pins s I) fun u s1 got => ?_) ht
  obtain ⟨v, H1, I1, rv, x, F1, μ1, ex1, r1, p1, p, dx, fs, ex, hp, hl, q1⟩ := got
  subst ex; rw [rep_loc] at p1; subst p1
  obtain rfl : u = Value.ref p := rv
  obtain ⟨_, ob, g1, ws, rfl, g2⟩ := r1.own p _ hp
  refine getmeth_ok I1 g1 cl hm (lookup_none g2 hl) ?_
  refine PySem.W.callWith_K0 (first := [.ref p]) I1.kIn hm.kp (runD (us := [.ref p]) (vs := [.ref p]) (dvs := []) (E := fun _ _ _ => False) Fn (ar.mono hk) bi .nil (fun _ _ _ _ _ _ _ z => z.elim) I1 (.cons rfl .nil) ⟨[.loc p], F1, M, μ1, Q, fun _ _ _ => False, .cons (rep_loc.mpr rfl) .nil, r1, q1, fun y μ' F' H' v q e1 r1 p1 => ?_, fun _ _ _ _ _ z _ _ => z⟩)
  exact ⟨y, F', μ', ex1.trans e1, r1, p1, q⟩
theorem Rel.grow {K : PySem.W.Frag} {M F H : Hp} {p : Addr} {ob : HO} (h : Rel K μ M F H) (n : H p = none) : Rel K μ M F (upd H p ob) := by
  refine ⟨h.sub.trans (.new n), fun q m e => ?_, fun q o e => ?_⟩
  · obtain ⟨g1, o', g2, g3⟩ := h.own q m e
    have hq : q ≠ p := fun z => by rw [z, n] at g2; cases g2
    exact ⟨g1, o', by rw [upd_ne hq]; exact g2, g3⟩
  · obtain ⟨g1, g2, g3⟩ := h.frm q o e
    have hq : q ≠ p := fun z => by rw [z, n] at g3; cases g3
    exact ⟨g1, g2, by rw [upd_ne hq]; exact g3⟩
theorem under_guards {A : Around} (C : Addr) (us : List Value) (kw : List (Str × Value)) : (A.under (.builtin "type.__call__" ⟨.ref C :: us, kw⟩)).guards = A.guards := by
  unfold Around.under; rfl
theorem make_run {pins : List (Addr × Obj)} {σ : L2.St} {H M F0 : Hp} {s : Shared} {us : List Value} {vs : List V} {x : Str} (Dm : CalK X.prog X.w X.K X.mg X.base k x C cc) (ar : Ar X j) (hk : k + 1 ≤ j) (I : Inv X pins σ H s) (rv : Vals vs us) {xs : List D.A} (rp : RepL X.K F0 xs vs) (rl : Rel X.K μ M F0 H)
    (h : ∀ p dx, μ p = none → cc (.loc p :: xs) (μ.upd p (.ins C dx [])) (fun v μ' => v = .non ∧ Q (.loc p) μ') fun _ _ _ => False) :
    wpAny (model X.prog X.w) X.A (call (.ref C) us) (EP X pins σ (QE X.K M F0 Q)) X.xe s := by
  obtain ⟨fa, fd, ps, Fn, hm, hmg, bi⟩ := Dm.ex
  have ar2 := ar.mono hk
  have I2 := Inv.made (C := C) I
  have n1 : H (s.heap.objs.size + 1) = none := I.hok.fresh (Nat.le_succ _)
  have n0 : H s.heap.objs.size = none := I.hok.fresh (Nat.le_refl _)
  have ne : s.heap.objs.size + 1 ≠ s.heap.objs.size := by omega
  have rl1 : Rel X.K μ M F0 (upd H s.heap.objs.size (.own (s.heap.objs.size + 1))) := rl.grow n0
  obtain ⟨nμ, rl2⟩ := rl1.new (p := s.heap.objs.size + 1) (m := .ins C s.heap.objs.size []) (o := .ins C s.heap.objs.size []) (by rw [upd_ne ne]; exact n1) ⟨[], rfl, rfl⟩
  have all : Vals (V.ref (s.heap.objs.size + 1) :: vs) (Value.ref (s.heap.objs.size + 1) :: us) := .cons rfl rv
  have sp : spOf X.K cc (.ref (s.heap.objs.size + 1) :: vs) _ (fun v H2 => v = .non ∧ QE X.K M F0 Q (.ref (s.heap.objs.size + 1)) H2) (fun _ _ _ => False) :=
    ⟨.loc (s.heap.objs.size + 1) :: xs, F0, M, _, _, _, .cons (rep_loc.mpr rfl) rp, rl2, h _ _ nμ, fun y μ' F' H' v q e1 r1 p1 => by
      obtain ⟨rfl, q⟩ := q
      rw [rep_non] at p1
      exact ⟨p1, _, F', μ', e1, r1, rep_loc.mpr rfl, q⟩, fun _ _ _ _ _ z _ _ => z⟩
  have hl : (Value.ref (s.heap.objs.size + 1) :: us).length = ps.length := by rw [← all.length]; exact spOf.len Fn.len sp
  have hb := bi _ (Value.ref (s.heap.objs.size + 1) :: us) I2.kIn (by rw [List.append_nil]; exact hl)
  rw [List.append_nil] at hb
  refine wpAny_call (make_map (f := fa) I.kIn hm.makes hm.init (beq_iff_eq.mp hm.fn) (codeAny_mono (Fn.run _ X.stack _ _ ⟨Value.ref (s.heap.objs.size + 1) :: us, []⟩ _ _ _ _ (ar2.room.make C us []) ((under_guards C us []).trans ar.show0) (I2.env0.make C us []) hb all sp) fun r s' hq' => ?_))
  match r, hq' with
  | .error e, hq' => exact hq'.elim
  | .ok (.ret u), hq' =>
    obtain ⟨v, H', I3, rv', ev, q3⟩ := I2.after hq'
    subst ev
    exact ⟨rv', ⟨V.ref (s.heap.objs.size + 1), H', I3, rfl, q3⟩⟩
  | .ok .next, hq' => exact hq'.elim
  | .ok .brk, hq' => exact hq'.elim
  | .ok .cont, hq' => exact hq'.elim
theorem wE_make {x : Str} (Dm : CalK X.prog X.w X.K X.mg X.base k x C cc) (ar : Ar X j) (hk : k + 1 ≤ j) (h : wA B X (e :: es) Γ μ fun xs μ1 => ∀ p dx, μ1 p = none → cc (.loc p :: xs) (μ1.upd p (.ins C dx [])) (fun v μ' => v = .non ∧ Q (.loc p) μ') fun _ _ _ => False) (hg : Gl X x := by rfl) (hdb : (x == ("__debug__" : Str)) = false := by decide)
    (he : starEach (e :: es) X.env = (false, eval e X.env) :: starEach es X.env := by rfl) (hpl : (backTo pos (starEach es X.env)).any (·.1) = false := by rfl) : wE B X (.Call (.Name x p0) (e :: es) [] pos) Γ μ Q := by
  obtain ⟨fa, fd, ps, Fn, hm, hmg, bi⟩ := Dm.ex
  intro σ M F0 H bo rs rl
  refine ⟨fun pins s I => ?_⟩
  refine wpAny_Call_Name_kw (ld_glob I hg hmg ?_ hdb)
  refine PySem.W.callWith_K (h₀ := X.base) I.ok.mod.kin hm.kp (thn ((h σ M F0 H bo rs rl).o pos pins s I) fun us s1 got => ?_) he hpl
  obtain ⟨vs, H1, I1, rv, xs, F1, μ1, ex, rl1, rp, hc⟩ := got
  exact ⟨I1.kIn, thn (make_run Dm ar hk I1 rv rp rl1 hc) fun _ _ ⟨z, H3, I3, r3, q3⟩ => ⟨z, H3, I3, r3, q3.mono ex⟩⟩
theorem wE_make0 {x : Str} (Dm : CalK X.prog X.w X.K X.mg X.base k x C cc) (ar : Ar X j) (hk : k + 1 ≤ j) (h : ∀ p dx, μ p = none → cc [.loc p] (μ.upd p (.ins C dx [])) (fun v μ' => v = .non ∧ Q (.loc p) μ') fun _ _ _ => False) (hg : Gl X x := by rfl) (hdb : (x == ("__debug__" : Str)) = false := by decide) : wE B X (.Call (.Name x p0) [] [] pos) Γ μ Q := by
  obtain ⟨fa, fd, ps, Fn, hm, hmg, bi⟩ := Dm.ex
  intro σ M F0 H bo rs rl
  refine ⟨fun pins s I => ?_⟩
  refine wpAny_Call_Name_kw (ld_glob I hg hmg ?_ hdb)
  exact PySem.W.callWith_K0 I.kIn hm.kp (make_run (us := []) (vs := []) Dm ar hk I .nil .nil rl h)
theorem wE_chain2 {op op' : CmpOp} (h : wE B X a Γ μ fun x μ1 => wE B X b Γ μ1 fun y μ2 => wO X (compareOp op) x y μ2 fun z μ3 => ∃ k, z = .bl k ∧ (k = true → wE B X c Γ μ3 fun w μ4 => wO X (compareOp op') y w μ4 Q) ∧ (k = false → Q (.bl false) μ3))
    (hm : lastMarks [op, op'] [b, c] = false := by with_unfolding_all rfl) : wE B X (.Compare a [op, op'] [b, c] pos) Γ μ Q := wE_of (pe_chain opr_rd opr_rd pe_rd pe_rd pe_rd hm) fun σ M F H bo rs r => by
  refine (h σ M F H bo rs r).imp fun v H1 ⟨x, F1, μ1, e1, r1, p1, q1⟩ => ?_
  refine (q1 σ M F1 H1 (bo.mono e1) (rs.mono e1) r1).imp fun w H2 ⟨y, F2, μ2, e2, r2, p2, q2⟩ => ?_
  refine ⟨fun pins s σ' v' u' I hv hw => ?_⟩
  refine thn ((q2 M F2 H2 v w r2 (p1.mono e2) p2).o pins s σ' v' u' I hv hw) fun _ _ ⟨z, H3, I3, r3, x3, F3, μ3, e3, rl3, p3, k, ek, q3, q4⟩ => ?_
  subst ek; rw [rep_bl] at p3
  refine ⟨z, H3, I3, r3, k, p3, ?_⟩
  have e12 := (e1.trans e2).trans e3
  cases k with
  | false => exact iteF ⟨_, F3, μ3, e12, rl3, rep_bl.mpr rfl, q4 rfl⟩
  | true =>
    refine iteT ((q3 rfl σ M F3 H3 (bo.mono e12) (rs.mono e12) rl3).imp fun w' H4 ⟨y', F4, μ4, e4, r4, p4, q5⟩ => ?_)
    refine ⟨fun pins s σ' v' u' I hv hw => ?_⟩
    exact thn ((q5 M F4 H4 w w' r4 (p2.mono (e3.trans e4)) p4).o pins s σ' v' u' I hv hw) fun _ _ ⟨z', H5, I5, r5, q6⟩ => ⟨z', H5, I5, r5, q6.mono (e12.trans e4)⟩
theorem wE_dget2 {f : Expr} {cpos : Pos} (ar : Ar X j) (h : wE B X o Γ μ fun x μ1 => ∃ p kvs0, x = .loc p ∧ μ1 p = some (.dic kvs0) ∧ wE B X e Γ μ1 fun y μ2 => wE B X f Γ μ2 fun z μ3 => ∃ kvs k, μ3 p = some (.dic kvs) ∧ y = kA k ∧ Q ((valA kvs k).getD z) μ3)
    (hb : attributeBase o "get" X.env (eval o X.env) = eval o X.env := by rfl)
    (hf : ((backTo cpos (starEach [e, f] X.env)).all (fun x => !x.1) && (backToKw cpos (keywordEach [] X.env)).all (fun x => x.1.isSome) && decide (([e, f] : List Expr).length + ([] : List Keyword).length + (if ([] : List Keyword).isEmpty then 0 else 1) < 30)) = true := by rfl)
    (hl : (apos.endLine == cpos.line) = true := by rfl) (ht : backTo cpos (starEach [e, f] X.env) = [(false, eval e X.env), (false, eval f X.env)] := by rfl) : wE B X (.Call (.Attribute o "get" apos) [e, f] [] cpos) Γ μ Q := wE_of (pe_dget2 ar.u1 pe_rd pe_rd pe_rd ⟨hb, hf, hl, ht⟩) fun σ M F H bo rs r => by
  refine (h σ M F H bo rs r).imp fun v H1 ⟨x, F1, μ1, e1, r1, p1, p, kvs0, ex, hp, q1⟩ => ?_
  subst ex; rw [rep_loc] at p1
  obtain ⟨_, ob, g1, ws0, rfl, g2⟩ := r1.own p _ hp
  refine ⟨p, p1, .inl ⟨_, .inl g1⟩, ?_⟩
  refine (q1 σ M F1 H1 (bo.mono e1) (rs.mono e1) r1).imp fun w H2 ⟨y, F2, μ2, e2, r2, p2, q2⟩ => ?_
  refine (q2 σ M F2 H2 (bo.mono (e1.trans e2)) (rs.mono (e1.trans e2)) r2).imp fun u H3 ⟨z, F3, μ3, e3, r3, p3, kvs, k, hq, ey, q3⟩ => ?_
  subst ey
  have hw := kA_rep p2
  obtain ⟨_, ob, k1, ws, rfl, k2⟩ := r3.own p _ hq
  refine ⟨valV ws k, by rw [hw]; exact DGet.k k1, ?_⟩
  rcases valA_rep k k2 with ⟨h1, h2⟩ | ⟨z', v', h1, h2, h3⟩
  · rw [h1] at q3; rw [h2]
    exact ⟨z, F3, μ3, (e1.trans e2).trans e3, r3, p3, q3⟩
  · rw [h1] at q3; rw [h2]
    exact ⟨z', F3, μ3, (e1.trans e2).trans e3, r3, h3, q3⟩
end
end D

namespace D
open PySem PySem.Spec PyProof.Rows L2
section
variable {B : Bs} {X : Cx} {Γ : G} {μ : Mu} {Q : A → Mu → Prop} {QB : Bool → Mu → Prop} {e o f : Expr} {pos apos cpos : Pos} {j : Nat}
theorem valO_rep {K : PySem.W.Frag} {F : Hp} {kvs : List (Key × A)} {ws : List (Key × V)} (k : Key) (h : RepK K F kvs ws) : (valV ws k).isSome = (valA kvs k).isSome := by
  rcases valA_rep k h with ⟨h1, h2⟩ | ⟨z, v, h1, h2, _⟩
  · rw [h1, h2]; rfl
  · rw [h1, h2]; rfl
theorem wE_inD (ar : Ar X j) (h : wE B X e Γ μ fun y μ1 => wE B X o Γ μ1 fun x μ2 => ∃ p kvs k, x = .loc p ∧ μ2 p = some (.dic kvs) ∧ y = kA k ∧ Q (.bl (valA kvs k).isSome) μ2) (hm : behindInMarks .In o = false := by rfl) : wE B X (.Compare e [.In] [o] pos) Γ μ Q := wE_of (pe_cmp (pc_din ar.u1 pe_rd pe_rd) hm) fun σ M F H bo rs r => by
  refine (h σ M F H bo rs r).imp fun w H2 ⟨y, F2, μ2, e2, r2, p2, q2⟩ => ?_
  refine (q2 σ M F2 H2 (bo.mono e2) (rs.mono e2) r2).imp fun v H1 ⟨x, F1, μ1, e1, r1, p1, p, kvs, k, ex, hp, ey, q1⟩ => ?_
  subst ex; subst ey; rw [rep_loc] at p1
  have hw := kA_rep p2
  obtain ⟨_, ob, g1, ws, rfl, g2⟩ := r1.own p _ hp
  exact ⟨p, _, p1, by rw [hw]; exact DGet.k g1, _, F1, μ1, e2.trans e1, r1, rep_bl.mpr (by rw [valO_rep k g2]), q1⟩
theorem wE_notInD (ar : Ar X j) (h : wE B X e Γ μ fun y μ1 => wE B X o Γ μ1 fun x μ2 => ∃ p kvs k, x = .loc p ∧ μ2 p = some (.dic kvs) ∧ y = kA k ∧ Q (.bl (!(valA kvs k).isSome)) μ2) (hm : behindInMarks .NotIn o = false := by rfl) : wE B X (.Compare e [.NotIn] [o] pos) Γ μ Q := wE_of (pe_cmp (pc_dnotin ar.u1 pe_rd pe_rd) hm) fun σ M F H bo rs r => by
  refine (h σ M F H bo rs r).imp fun w H2 ⟨y, F2, μ2, e2, r2, p2, q2⟩ => ?_
  refine (q2 σ M F2 H2 (bo.mono e2) (rs.mono e2) r2).imp fun v H1 ⟨x, F1, μ1, e1, r1, p1, p, kvs, k, ex, hp, ey, q1⟩ => ?_
  subst ex; subst ey; rw [rep_loc] at p1
  have hw := kA_rep p2
  obtain ⟨_, ob, g1, ws, rfl, g2⟩ := r1.own p _ hp
  exact ⟨p, _, p1, by rw [hw]; exact DGet.k g1, _, F1, μ1, e2.trans e1, r1, rep_bl.mpr (by rw [valO_rep k g2]), q1⟩
theorem wT_inD (ar : Ar X j) (h : wE B X e Γ μ fun y μ1 => wE B X o Γ μ1 fun x μ2 => ∃ p kvs k, x = .loc p ∧ μ2 p = some (.dic kvs) ∧ y = kA k ∧ QB (valA kvs k).isSome μ2) (hm : behindInMarks .In o = false := by rfl) : wT B X (.Compare e [.In] [o] pos) Γ μ QB := wT_of (pt_cmp (pc_din ar.u1 pe_rd pe_rd) hm) fun σ M F H bo rs r => by
  refine (h σ M F H bo rs r).imp fun w H2 ⟨y, F2, μ2, e2, r2, p2, q2⟩ => ?_
  refine (q2 σ M F2 H2 (bo.mono e2) (rs.mono e2) r2).imp fun v H1 ⟨x, F1, μ1, e1, r1, p1, p, kvs, k, ex, hp, ey, q1⟩ => ?_
  subst ex; subst ey; rw [rep_loc] at p1
  have hw := kA_rep p2
  obtain ⟨_, ob, g1, ws, rfl, g2⟩ := r1.own p _ hp
  exact ⟨p, _, p1, by rw [hw]; exact DGet.k g1, _, by rw [valO_rep k g2], F1, μ1, e2.trans e1, r1, q1⟩
theorem wT_notInD (ar : Ar X j) (h : wE B X e Γ μ fun y μ1 => wE B X o Γ μ1 fun x μ2 => ∃ p kvs k, x = .loc p ∧ μ2 p = some (.dic kvs) ∧ y = kA k ∧ QB (!(valA kvs k).isSome) μ2) (hm : behindInMarks .NotIn o = false := by rfl) : wT B X (.Compare e [.NotIn] [o] pos) Γ μ QB := wT_of (pt_cmp (pc_dnotin ar.u1 pe_rd pe_rd) hm) fun σ M F H bo rs r => by
  refine (h σ M F H bo rs r).imp fun w H2 ⟨y, F2, μ2, e2, r2, p2, q2⟩ => ?_
  refine (q2 σ M F2 H2 (bo.mono e2) (rs.mono e2) r2).imp fun v H1 ⟨x, F1, μ1, e1, r1, p1, p, kvs, k, ex, hp, ey, q1⟩ => ?_
  subst ex; subst ey; rw [rep_loc] at p1
  have hw := kA_rep p2
  obtain ⟨_, ob, g1, ws, rfl, g2⟩ := r1.own p _ hp
  exact ⟨p, _, p1, by rw [hw]; exact DGet.k g1, _, by rw [valO_rep k g2], F1, μ1, e2.trans e1, r1, q1⟩
theorem pairs_in {K : PySem.W.Frag} {F : Hp} : ∀ {kvs : List (Key × A)} {vs : List V}, RepL K F (kvs.map fun kv => A.tup [kA kv.1, kv.2]) vs → ∃ (ps : List Addr) (ws : List (Key × V)), vs = ps.map V.ref ∧ Paired (fun p kv => SqT K F p [kV kv.1, kv.2]) ps ws ∧ RepK K F kvs ws
  | [], _, h => by simp only [List.map_nil, RepL] at h; subst h; exact ⟨[], [], rfl, .nil, rfl⟩
  | (k, y) :: r, _, h => by
    simp only [List.map_cons, RepL] at h
    obtain ⟨v, t, rfl, h1, h2⟩ := h
    obtain ⟨ps, ws, rfl, h3, h4⟩ := pairs_in h2
    rw [rep_tup] at h1
    obtain ⟨a, us, rfl, g1, g2⟩ := h1
    obtain ⟨v1, v2, rfl, k1, k2⟩ := g2.two
    rw [kA_rep k1] at g1
    exact ⟨a :: ps, (k, v2) :: ws, rfl, .cons g1 h3, ⟨v2, ws, rfl, k2, h4⟩⟩
theorem paired_imp {α β : Type} {R S : α → β → Prop} (h : ∀ a b, R a b → S a b) : ∀ {l : List α} {m : List β}, Paired R l m → Paired S l m
  | _, _, .nil => .nil
  | _, _, .cons a t => .cons (h _ _ a) (paired_imp h t)
theorem wC_dictP {x : A} {kvs : List (Key × A)} (hc : X.calm = true) (hx : IsL μ x (kvs.map fun kv => A.tup [kA kv.1, kv.2])) (q : ∀ p, μ p = none → Q (.loc p) (μ.upd p (.dic (mergeA [] kvs)))) : wC X (.type "dict") [x] μ Q := wC_of (call_dictP hc) fun M F H vs rl r => by
  obtain ⟨v, rfl, h⟩ := r.one
  obtain ⟨a, us, e, h1, h2⟩ := hx.rep rl h
  obtain ⟨ps, ws, rfl, h3, h4⟩ := pairs_in h2
  refine ⟨a, ps, ws, by rw [e], .inl (.inl h1), paired_imp (fun p kv => rl.sub.t) h3, fun p np => ?_⟩
  obtain ⟨nμ, rl'⟩ := rl.new (m := .dic (mergeA [] kvs)) np ⟨_, rfl, merge_rep h4 rfl⟩
  exact ⟨_, _, _, .refl _, rl', rep_loc.mpr rfl, q p nμ⟩
def entI (d : DictEntry) : Option (Str × Int) := match d.key, d.val with
  | .str x _, .int i _ => some (x, i)
  | _, _ => none
structure KDi (K : PySem.W.Frag) (w : World) (p : Addr) (kvs : List (Str × Int)) : Prop where
  ex : ∃ (es : Array DictEntry) (n : Nat), K.lookup p = some ⟨.type "dict", none, .dict es n, #[]⟩ ∧ PySem.W.KeysLit w.params es.toList ∧ (p == sysModules) = false ∧ es.toList.map entI = kvs.map some
def valI (kvs : List (Str × Int)) (z : Str) : Option Int := (kvs.find? fun kv => decide (kv.1 = z)).map (·.2)
theorem ent_is {dh : Int} {dk dv : Value} {x : Str} {i : Int} (h : entI ⟨dh, dk, dv⟩ = some (x, i)) : ∃ tx ti, dk = .str x tx ∧ dv = .int i ti := by
  unfold entI at h
  simp only at h
  split at h
  · cases h; exact ⟨_, _, rfl, rfl⟩
  · cases h
theorem ent_find (z : Str) : ∀ {es : List DictEntry} {kvs : List (Str × Int)}, es.map entI = kvs.map some → (valI kvs z = none ∧ es.find? (fun d => Value.isStrOf z d.key) = none) ∨ ∃ d i t, valI kvs z = some i ∧ es.find? (fun d => Value.isStrOf z d.key) = some d ∧ d.val = .int i t
  | [], [], _ => .inl ⟨rfl, rfl⟩
  | [], _ :: _, e0 => by cases e0
  | _ :: _, [], e0 => by cases e0
  | d :: es, (x, i) :: kvs, e0 => by
    obtain ⟨h1, h2⟩ : entI d = some (x, i) ∧ es.map entI = kvs.map some := by simpa using e0
    have ih := ent_find z h2
    obtain ⟨dh, dk, dv⟩ := d
    obtain ⟨tx, ti, rfl, rfl⟩ := ent_is h1
    by_cases e : x = z
    · subst e
      refine .inr ⟨⟨dh, .str x tx, .int i ti⟩, i, ti, by simp [valI], ?_, rfl⟩
      rw [List.find?_cons]
      simp [Value.isStrOf]
    · have e2 : Value.isStrOf z (.str x tx) = false := by simp [Value.isStrOf]; exact fun h => e h
      simp only [valI, List.find?_cons, e, decide_false, e2] at ih ⊢
      exact ih
theorem wE_kget {p : Addr} {kvs : List (Str × Int)} (Dk : KDi X.K X.w p kvs) (h : wE B X o Γ μ fun x μ1 => x = .loc p ∧ wE B X e Γ μ1 fun y μ2 => wE B X f Γ μ2 fun z μ3 => ∃ (k : Str) (i : Int), y = .str k ∧ z = .int i ∧ Q (.int ((valI kvs k).getD i)) μ3)
    (hb : attributeBase o "get" X.env (eval o X.env) = eval o X.env := by rfl)
    (hf : ((backTo cpos (starEach [e, f] X.env)).all (fun x => !x.1) && (backToKw cpos (keywordEach [] X.env)).all (fun x => x.1.isSome) && decide (([e, f] : List Expr).length + ([] : List Keyword).length + (if ([] : List Keyword).isEmpty then 0 else 1) < 30)) = true := by rfl)
    (hl : (apos.endLine == cpos.line) = true := by rfl) (ht : backTo cpos (starEach [e, f] X.env) = [(false, eval e X.env), (false, eval f X.env)] := by rfl) : wE B X (.Call (.Attribute o "get" apos) [e, f] [] cpos) Γ μ Q := by
  obtain ⟨es, n, k1, k2, k3, k4⟩ := Dk.ex
  intro σ M F H bo rs rl
  refine ⟨fun pins s I => ?_⟩
  refine wpAny_Call_method hb hf hl PySem.F.plainAttrs_dict PySem.F.slot_dict_get PySem.F.type_dict_get (thn ((h σ M F H bo rs rl).o pins s I) fun u s1 got => ?_)
  obtain ⟨v, H1, I1, rv, x, F1, μ1, ex1, r1, p1, rfl, q1⟩ := got
  rw [rep_loc] at p1; subst p1
  obtain rfl : u = Value.ref p := rv
  have mo := fun {s : Shared} {pins : List (Addr × Obj)} {σ : L2.St} {H : Hp} (I : Inv X pins σ H s) => PySem.W.mapOf_K (prog := X.prog) (w := X.w) I.kIn k1 k2
  refine ⟨(mo I1).typeIs, fun b q => ?_, ?_⟩
  · cases q; exact ⟨_, I1.kIn _ _ k1, rfl⟩
  rw [ht]
  refine Calls.callWith_builtin rfl (Calls.evalArgs_plain (Calls.spliced_cons (thn ((q1 σ M F1 H1 (bo.mono ex1) (rs.mono ex1) r1).o pins s1 I1) fun iv s2 got2 => Calls.spliced_cons ?_)))
  obtain ⟨v2, H2, I2, rv2, y, F2, μ2, ex2, r2, p2, q2⟩ := got2
  refine thn ((q2 σ M F2 H2 (bo.mono (ex1.trans ex2)) (rs.mono (ex1.trans ex2)) r2).o pins s2 I2) fun fv s3 got3 => Calls.spliced_nil ?_
  obtain ⟨v3, H3, I3, rv3, z, F3, μ3, ex3, r3, p3, k, i, rfl, rfl, q3⟩ := got3
  rw [rep_str] at p2; subst p2
  rw [rep_int] at p3; subst p3
  obtain ⟨t2, rfl⟩ := rv2
  obtain ⟨t3, rfl⟩ := rv3
  refine call_meetsIn PySem.F.slot_dict_get (mo I3).typeIs PySem.F.entry_dict_get (PySem.F.args_dict_get_3 _ _ _) (meets_dict_get_default (strKind X.prog X.w) p (strKind_is X.prog X.w k t2) k3 (.int i t3)) ⟨_, mo I3, ?_⟩
  have fin : ∀ (m : Int) (tm : Tok) (tk : Nat), m = (valI kvs k).getD i → EP X pins σ (QE X.K M F Q) (.int m tm) { s3 with toks := tk } := fun m tm tk e => ⟨.int m, H3, I3.tok _, ⟨_, rfl⟩, .int m, F3, μ3, (ex1.trans ex2).trans ex3, r3, rep_int.mpr rfl, by rw [e]; exact q3⟩
  rcases ent_find k k4 with ⟨h1, h2⟩ | ⟨d, m, t, h1, h2, h3⟩
  · have e0 : findBy Value.isStrOf es k = none := by unfold findBy; rw [← Array.find?_toList, h2]; rfl
    simp only [e0, Option.getD_none]
    exact fin i t3 _ (by rw [h1]; rfl)
  · have e0 : findBy Value.isStrOf es k = some (.int m t) := by unfold findBy; rw [← Array.find?_toList, h2, ← h3]; rfl
    simp only [e0, Option.getD_some]
    exact fin m t _ (by rw [h1]; rfl)
end
end D

namespace D
open PySem PySem.Spec PyProof.Rows L2
def unl (l : List Str) : List Str := l.foldl (fun a x => if x ∈ a then a else a ++ [x]) []
theorem unl_snoc (l : List Str) (x : Str) : unl (l ++ [x]) = if x ∈ unl l then unl l else unl l ++ [x] := by unfold unl; rw [List.foldl_append]; rfl
theorem mem_unl : ∀ (n : Nat) (l : List Str) (y : Str), l.length = n → (y ∈ unl l ↔ y ∈ l)
  | 0, l, y, h => by rw [List.length_eq_zero_iff.mp h]; simp [unl]
  | n + 1, l, y, h => by
    obtain ⟨m, x, rfl⟩ : ∃ m x, l = m ++ [x] := ⟨l.dropLast, l.getLast (fun z => by rw [z] at h; simp at h), (List.dropLast_concat_getLast _).symm⟩
    have ih := fun y => mem_unl n m y (by simpa using h)
    rw [unl_snoc]
    split
    · rename_i hx
      rw [ih]
      simp only [List.mem_append, List.mem_singleton]
      exact ⟨.inl, fun z => z.elim id fun e => by rw [e]; exact (ih x).mp hx⟩
    · simp only [List.mem_append, List.mem_singleton, ih]
theorem mem_un {l : List Str} {y : Str} : y ∈ unl l ↔ y ∈ l := mem_unl _ l y rfl
theorem unl_le : ∀ (n : Nat) (l : List Str), l.length = n → (unl l).length ≤ l.length
  | 0, l, h => by rw [List.length_eq_zero_iff.mp h]; simp [unl]
  | n + 1, l, h => by
    obtain ⟨m, x, rfl⟩ : ∃ m x, l = m ++ [x] := ⟨l.dropLast, l.getLast (fun z => by rw [z] at h; simp at h), (List.dropLast_concat_getLast _).symm⟩
    have ih := unl_le n m (by simpa using h)
    rw [unl_snoc]
    split
    · simp; omega
    · simp; omega
theorem unl_nodup : ∀ (n : Nat) (l : List Str), l.length = n → l.Nodup → unl l = l
  | 0, l, h, _ => by rw [List.length_eq_zero_iff.mp h]; rfl
  | n + 1, l, h, hd => by
    obtain ⟨m, x, rfl⟩ : ∃ m x, l = m ++ [x] := ⟨l.dropLast, l.getLast (fun z => by rw [z] at h; simp at h), (List.dropLast_concat_getLast _).symm⟩
    rw [List.nodup_append] at hd
    rw [unl_snoc, unl_nodup n m (by simpa using h) hd.1, if_neg fun hx => hd.2.2 x hx x (by simp) rfl]
section
variable {P : Program} {w : World} {B : Around} {T : Result → Shared → Prop} {it : Addr} {fp wr : List Addr} {G0 : Array GenState → Array GenState → Prop} {n : Nat} {Pv : Nat → Value → Prop} {St0 : Nat → Shared → Prop}
abbrev HasT (P : Program) (w : World) (h : Heap) (a : Addr) (l : List Str) : Prop := h.SetOf (PySem.strKind P w) a (fun z => decide (z ∈ l)) (unl l).length
theorem set_turns (W : WalksS P w B.in1 it fp wr G0 n Pv St0) (a : Addr) (ha : a ∉ fp) (xs : List Str) (hn : xs.length = n) (hb : n + 1 < scanBound) (hv : ∀ i u, Pv i u → ∃ t, u = .str (xs.getD i Str.empty) t) :
    ∀ (m i : Nat) (s : Shared), i + m = n → St0 i s → HasT P w s.heap a (xs.take i) → (∀ s', Moved (a :: wr) G0 s s' → HasT P w s'.heap a xs → T (.ok (.ret .none)) s') →
      codeAny (model P w) B (.builtin "set.update.loop" ⟨[.ref a, .ref it], []⟩) T s
  | 0, i, s, hi, st, hS, hT => by
    refine codeAny_builtin PyProof.Rows.F.entry_set_update_loop ?_; rw [Around.under_plainId PyProof.Rows.F.plain_set_update_loop _]
    have e : i = n := by omega
    subst e; rw [← hn, List.take_length] at hS
    refine (show wpAny _ B.in1 (pyNext (.ref it) >>= _) _ _ s from wpAny_bind (W.done s _ _ st fun s1 mv => ?_))
    refine (show wpAny _ B.in1 (ret Value.none) _ _ s1 from wpAny_pure (hT s1 (mv.mono fun b hb => List.mem_cons_of_mem _ hb) ?_))
    obtain ⟨ob, es, ep, tb, h0, more⟩ := hS; exact ⟨ob, es, ep, tb, mv.heap a _ (fun z => ha (W.sub _ z)) h0, more⟩
  | m + 1, i, s, hi, st, hS, hT => by
    refine codeAny_builtin PyProof.Rows.F.entry_set_update_loop ?_; rw [Around.under_plainId PyProof.Rows.F.plain_set_update_loop _]
    refine (show wpAny _ B.in1 (pyNext (.ref it) >>= _) _ _ s from wpAny_bind (W.item i s _ _ (by omega) st fun v s1 hp st1 mv => ?_))
    obtain ⟨t, rfl⟩ := hv i v hp
    have hS1 : HasT P w s1.heap a (xs.take i) := by obtain ⟨ob, es, ep, tb, h0, more⟩ := hS; exact ⟨ob, es, ep, tb, mv.heap a _ (fun z => ha (W.sub _ z)) h0, more⟩
    have hx : xs.take (i + 1) = xs.take i ++ [xs.getD i Str.empty] := by
      rw [List.take_add_one, List.getD_eq_getElem?_getD, List.getElem?_eq_getElem (by omega)]; rfl
    have hl := unl_le _ (xs.take i) rfl
    rw [List.length_take] at hl
    refine (show wpAny _ B.in1 (holding [Value.str (xs.getD i Str.empty) t] (setAdd a (.str (xs.getD i Str.empty) t)) >>= _) _ _ s1 from wpAny_bind (wpAny_holding ?_))
    unfold setAdd; refine wpAny_holding (wpAny_bind ((PySem.strKind P w).pyHash (k := xs.getD i Str.empty) (strKind_is _ _ _ _) ?_))
    refine wpAny_setAddHashed_of (knd := PySem.strKind P w) (s := { s1 with toks := s1.toks + 1 }) (strKind_is _ _ _ _) rfl hS1 (by omega) fun h2 sb hS2 => ?_
    have hS3 : HasT P w h2 a (xs.take (i + 1)) := by
      refine PyProof.Rows.SetOf_congr hS2 (fun z => ?_) ?_
      · rw [hx]; simp only [List.mem_append, List.mem_singleton, Bool.decide_or]
      · rw [hx, unl_snoc]
        by_cases hm : xs.getD i Str.empty ∈ xs.take i
        · rw [if_pos (mem_un.mpr hm), decide_eq_true hm]; rfl
        · rw [if_neg fun z => hm (mem_un.mp z), decide_eq_false hm, List.length_append]; rfl
    have mono : ∀ b ∈ wr, b ∈ a :: wr := fun b hb => List.mem_cons_of_mem _ hb
    refine wpAny_pure ⟨plainId_quiet PyProof.Rows.F.plain_set_update_loop _, set_turns W a ha xs hn hb hv m (i + 1) _ (by omega) (W.frame _ s1 _ _ st1 (Nat.le_succ _) fun b hb o e => by rw [sb.2 b (fun z : b = a => ha (z ▸ hb))]; exact e) hS3 fun s3 mv3 hS4 => ?_⟩
    exact hT s3 (Moved.trans W.gtrans ((mv.mono mono).then_heap (Nat.le_succ _) fun b o hb e => by rw [sb.2 b (fun z : b = a => hb (z ▸ List.mem_cons_self))]; exact e) mv3) hS4
end
section
variable {P : Program} {w : World} {B : Around} {E : Value → Shared → Prop} {s : Shared}
abbrev fresh0 (led : Bool) : Obj := { cls := .type "set", dict := none, data := .set #[] 0 (.fresh 0 0 led) }
set_option maxHeartbeats 8000000 in
theorem set_of_tuple {l : Addr} {its : Array Value} {xs : List Str} {Q : Value → Shared → Prop} (hh : B.handled = none) (hl : s.heap.IsTuple l its) (hx : PyProof.Rows.StrsAre its.toList xs) (hb : xs.length + 1 < scanBound)
    (q : ∀ (h' : Heap) (tk : Nat), HasT P w h' s.heap.objs.size xs → (∀ b o, b < s.heap.objs.size → s.heap.get? b = some o → h'.get? b = some o) → Q (.ref s.heap.objs.size) { s with heap := h', toks := tk }) : wpAny (model P w) B (call (.type "set") [.ref l]) Q E s := by
  obtain ⟨mc, mt, hmro⟩ := PySem.F.called_set.mro
  have g1 := PySem.F.called_set.made; have g2 := PySem.F.called_set.sub; have g3 := PySem.F.called_set.notType; have g4 := PySem.F.called_set.canCreate; have g5 := PySem.F.typeCall_set_1 (.ref l)
  refine (wpAny_call (codeAny_of_tree (show wpAny _ _ (callAny (.type "set") _) _ _ _ from wpAny_pure ⟨Code.quiet_builtin _ (by decide +kernel), codeAny_builtin PySem.F.entry_type_call ?_⟩)))
  rw [Around.under_plain (weight_type_call_type "set" [.ref l] []) rfl]
  repeat (any_goals (first | wp_step | assumption))
  refine codeAny_mono (code_set_new_1 (.ref l) (E := E) (Q₁ := fun ob s1 => ∃ led : Bool, ob = .ref s.heap.objs.size ∧ s1 = { s with heap := s.heap.push (fresh0 led) }) fun led => ⟨led, rfl, rfl⟩) fun r s1 hr => ?_
  match r, hr with
  | .error e, hr => exact hr
  | .ok .next, hr => exact hr.elim
  | .ok .brk, hr => exact hr.elim
  | .ok .cont, hr => exact hr.elim
  | .ok (.ret ob), hr =>
    obtain ⟨led, rfl, rfl⟩ := hr
    have hS : (s.heap.push (fresh0 led)).get? s.heap.objs.size = some (fresh0 led) := Heap.get?_push_size _ rfl
    have hT : Shared.TypeIs { s with heap := s.heap.push (fresh0 led) } (.ref s.heap.objs.size) "set" := ⟨_, hS, rfl⟩
    have k1 := PySem.F.called_set.init.lookup; have k2 := PySem.F.called_set.init.bind (.ref s.heap.objs.size)
    repeat (any_goals (first | wp_step | assumption))
    refine codeAny_mono (codeAny_call_builtin (R := wants (fun r s2 => r = .none ∧ ∃ h' tk, s2 = { s with heap := h', toks := tk } ∧ HasT P w h' s.heap.objs.size xs ∧ (∀ b o, b < s.heap.objs.size → s.heap.get? b = some o → h'.get? b = some o)) E) PySem.F.called_set.init.plain PySem.F.entry_set_init (check_set_init_1 hT ?_)) fun r2 s2 hr2 => ?_
    · obtain ⟨⟨_, od, _, osl⟩, hol, rfl, nl, rfl⟩ := hl
      have hol2 : (s.heap.push (fresh0 led)).get? l = some { cls := .type "tuple", dict := od, data := .seq its nl, slots := osl } := Heap.get?_push_of_some _ hol
      have n1 := PySem.F.sub_tuple_set; have n2 := PySem.F.sub_tuple_frozenset; have n3 : (Value.type "tuple" == Value.type "dict") = false := by decide
      have isT : (s.heap.push (fresh0 led)).IsTuple l its := ⟨_, hol2, rfl, nl, rfl⟩
      unfold Builtin.«set.__init__» noKeywords Builtin.Frozenset.updateFrom
      generalize hpi : pyIter = PI
      wp_walk
      subst hpi
      refine wpAny_pyIter_tuple isT (wpAny_bind (wpAny_runValue ?_))
      have lS : l < s.heap.objs.size := Heap.lt_size hol
      have hsz : its.size = xs.length := by rw [← StrsAre.len_eq hx, Array.length_toList]
      have neI : l ≠ (s.heap.push (fresh0 led)).objs.size := by rw [Heap.size_push]; exact Nat.ne_of_lt (Nat.lt_succ_of_lt lS)
      have off : s.heap.objs.size ∉ [(s.heap.push (fresh0 led)).objs.size, l] := by rw [Heap.size_push]; simp only [List.mem_cons, List.not_mem_nil, or_false, not_or]; exact ⟨Nat.ne_of_lt (Nat.lt_succ_self _), Nat.ne_of_gt lS⟩
      refine set_turns ((Walks.tuple (by simp [hh]) _ l neI its).toS) s.heap.objs.size off xs hsz.symm (by omega) (fun i v hv => SS.strs_at hx i v (by rw [Array.getElem?_toList]; exact hv)) its.size 0 _ (by omega) ⟨⟨_, Heap.get?_push_size _ rfl, rfl, rfl⟩, isT.push _⟩ ?_ fun s3 mv hS3 => ?_
      · have hg : ((s.heap.push (fresh0 led)).push { cls := .type "tuple_iterator", data := .fields #[.ref l, .int 0 0] }).get? s.heap.objs.size = some (fresh0 led) := Heap.get?_push_of_some _ hS
        exact PyProof.Rows.SetOf_congr ((PyProof.Rows.setObjOf_fresh (knd := PySem.strKind P w) led).setOf hg (by unfold scanBound; omega)) (fun _ => by simp) rfl
      · obtain ⟨h3, gn3, dr3, tk3, os3⟩ := s3
        obtain rfl : gn3 = s.gens := mv.gens
        obtain rfl : dr3 = s.drawn := mv.drawn
        obtain rfl : os3 = s.os := mv.os
        refine (show wpAny _ _ _ _ _ _ from wpAny_pure (show wpAny _ _ (ret Value.none) _ _ _ from wpAny_pure ⟨rfl, h3, tk3, rfl, hS3, fun b o lb e => ?_⟩))
        refine mv.heap b o ?_ (Heap.get?_push_of_some _ (Heap.get?_push_of_some _ e))
        rw [Heap.size_push]; simp only [List.mem_cons, List.not_mem_nil, or_false, not_or]; exact ⟨Nat.ne_of_lt lb, Nat.ne_of_lt (Nat.lt_succ_of_lt lb)⟩
    · match r2, hr2 with
      | .error e, hr2 => exact hr2
      | .ok .next, hr2 => exact hr2.elim
      | .ok .brk, hr2 => exact hr2.elim
      | .ok .cont, hr2 => exact hr2.elim
      | .ok (.ret _), hr2 =>
        obtain ⟨rfl, h', tk, rfl, hS', hk⟩ := hr2
        repeat (any_goals (first | wp_step | assumption))
        exact q _ _ hS' hk
end
section
variable {B : Bs} {X : Cx} {Γ : G} {μ : Mu} {Q : A → Mu → Prop} {e : Expr} {p p2 q0 pos : Pos}
theorem wE_lenSet (hm : X.mg "len" = none) (hm2 : X.mg "set" = none) (h : wE B X e Γ μ fun x μ1 => ∃ xs : List Str, x = .tup (xs.map A.str) ∧ xs.length ≤ 1000 ∧ Q (.int (unl xs).length) μ1) (hg : Gl X "len" := by rfl) (hg2 : Gl X "set" := by rfl) (hc : X.calm = true := by rfl)
    (na : starEach [e] X.env = (false, eval e X.env) :: starEach [] X.env := by rfl) : wE B X (.Call (.Name "len" p) [.Call (.Name "set" p2) [e] [] q0] [] pos) Γ μ Q := by
  intro σ M F H bo rs rl
  refine ⟨fun pins s I => ?_⟩
  refine Call_ (ld_blt I hg hm boot_len (PyProof.Rows.callWith_builtin1 (PyProof.Rows.args_cons ?_ rfl) rfl rfl))
  refine Call_ (ld_blt I hg2 hm2 boot_set (PyProof.Rows.callWith_type1 (PyProof.Rows.args_cons (thn ((h σ M F H bo rs rl).o pins s I) fun v s1 got => PyProof.Rows.args_nil ?_) na) na rfl))
  obtain ⟨u, H1, I1, ru, x, F1, μ1, ex, r1, p1, xs, rfl, hx, q1⟩ := got
  rw [rep_tup] at p1
  obtain ⟨a, vs, rfl, h1, h2⟩ := p1
  rw [repL_strs h2] at h1
  cases ru
  obtain ⟨its, rv, pl, hz⟩ := I1.tuple (r1.sub.t h1)
  refine set_of_tuple (I1.ok.hd hc) pl (by simpa using L2.strsAre_of rv) (by unfold scanBound; omega) fun h' tk hS hk => PyProof.Rows.args_nil ?_
  obtain ⟨o, es, ep, t, ho, hex, hd, _, _, _, hf, hn⟩ := hS
  have I2 : Inv X pins σ H1 { s1 with heap := h', toks := tk } := I1.kept fun b o e => hk b o (Heap.lt_size e) e
  have hu := unl_le _ xs rfl
  exact call_len_set ho hex hd hf (by rw [hn]; omega) ⟨.int (unl xs).length, H1, I2.tok _, ⟨_, by rw [hn]⟩, _, F1, μ1, ex, r1, rep_int.mpr rfl, q1⟩
end
end D

namespace D
open PySem PySem.Spec PyProof.Rows L2
abbrev Wk : Type := Unit
def wk0 : Wk := ()
def wkL : Wk → List (Key × A)
  | _ => []
end D

namespace D
open PySem PySem.Spec PyProof.Rows L2 NumText
def digA (w : Str) : Bool := w.cps.toList.all fun ch => decide (ch ∈ ("0123456789" : Str).cps.toList)
def figIn (w : Str) : Option Int := if (decide ((1 : Int) ≤ w.length) && decide ((w.length : Int) ≤ 4000) && digA w) = true then (if (Txt.startswith w "0" && !decide (w = "0")) = true then none else PySem.intText? w) else none
def optA : Option Int → A
  | none => .non
  | some i => .int i
def wholeOf (w : Str) : Option Int → Option Int
  | none => none
  | some v => if w = "-0" then none else some (if Txt.startswith w "-" = true then 0 - v else v)
def wholeIn (w : Str) : Option Int := wholeOf w (figIn (if Txt.startswith w "-" = true then cutS w (some 1) none else w))
def belowIn (w : Str) : Option Int := if (Txt.partition w "/").2.1 ≠ "" then figIn (Txt.partition w "/").2.2 else some 1
def numOf : Option Int → Option Int → A
  | some n, some d => if d = 0 then .non else low n d
  | _, _ => .non
def numIn (w : Str) : A := numOf (wholeIn (Txt.partition w "/").1) (belowIn w)
theorem fig_mem (c : Nat) : c ∈ ("0123456789" : Str).cps.toList ↔ 48 ≤ c ∧ c ≤ 57 := by
  have e : ("0123456789" : Str).cps.toList = [48, 49, 50, 51, 52, 53, 54, 55, 56, 57] := by decide
  rw [e]
  simp only [List.mem_cons, List.not_mem_nil, or_false]
  omega
theorem digA_all {w : Str} (h : digA w = true) : AllDigits w.cps.toList := fun c hc => by
  have := List.all_eq_true.mp h c hc
  exact (fig_mem c).mp (of_decide_eq_true this)
theorem digitsVal_bound (cs : List Nat) : ∀ acc : Nat, AllDigits cs → cs.foldl (fun acc c => acc * 10 + (c - 48)) acc < (acc + 1) * 10 ^ cs.length := by
  induction cs with
  | nil => intro acc _; simp
  | cons c cs ih =>
    intro acc h
    have hc := h.head
    have := ih (acc * 10 + (c - 48)) h.tail
    rw [List.foldl_cons, List.length_cons, Nat.pow_succ]
    refine Nat.lt_of_lt_of_le this ?_
    have h2 : acc * 10 + (c - 48) + 1 ≤ (acc + 1) * 10 := by omega
    calc _ ≤ (acc + 1) * 10 * 10 ^ cs.length := Nat.mul_le_mul_right _ h2
      _ = _ := by rw [Nat.mul_assoc, Nat.mul_comm 10]
theorem dig_int {w : Str} (h : digA w = true) (h1 : 1 ≤ w.length) (h2 : w.length ≤ 640) : ∃ n : Int, PySem.intText? w = some n ∧ 0 ≤ n ∧ Bd 2200 n := by
  have ha := digA_all h
  have hl : w.cps.toList.length = w.length := Array.length_toList
  refine ⟨_, intText_digits ha (fun z => by rw [z] at hl; simp at hl; omega) (by omega), by omega, ?_⟩
  have hb := digitsVal_bound w.cps.toList 0 ha
  unfold Bd
  rw [Int.natAbs_natCast]
  refine Nat.lt_of_lt_of_le (show digitsVal w.cps.toList < (0 + 1) * 10 ^ w.cps.toList.length from hb) ?_
  rw [Nat.zero_add, Nat.one_mul]
  exact Nat.le_trans (Nat.pow_le_pow_right (by decide) (show w.cps.toList.length ≤ 640 by omega)) (by decide +kernel)
end D

namespace D
open PySem PySem.Spec PyProof.Rows L2 TL NumText
theorem starts1 (w : Str) (c : Nat) : Txt.startswith w ⟨#[c]⟩ = decide ((tl w)[0]? = some c) := by
  have h := PySem.StrLaws.subAt_one w c 0
  unfold Txt.startswith
  by_cases e : (tl w)[0]? = some c
  · have h2 := h.mpr e
    rw [decide_eq_true e, h2.2, decide_eq_true h2.1]; rfl
  · rw [decide_eq_false e]
    refine Bool.eq_false_iff.mpr fun z => e (h.mp ?_)
    simpa using z
theorem nought : ("0" : Str) = ⟨#[48]⟩ := by decide
theorem dash : ("-" : Str) = ⟨#[45]⟩ := by decide
def txtN (n : Nat) : Str := Str.ofString (toString ((n : Nat) : Int))
theorem tl_txtN (n : Nat) : tl (txtN n) = numL n := tl_num n
theorem tl_neg (n : Nat) : tl (Str.ofString (toString (Int.negSucc n))) = 45 :: numL (n + 1) := by
  show (Str.ofString ("-" ++ Nat.repr (n + 1))).cps.toList = _
  rw [signs_ofString, String.toList_append, List.map_append, Nat.toList_repr]
  rfl
theorem head48 : ∀ n : Nat, (numL n)[0]? = some 48 → n = 0 := by
  intro n
  induction n using Nat.strongRecOn with
  | _ n ih =>
    intro h
    by_cases hn : n < 10
    · rw [numL_lt hn] at h
      simp at h; omega
    · rw [numL_step (by omega)] at h
      have h0 := numL_ne (n / 10)
      have h1 : (numL (n / 10))[0]? = some 48 := by
        cases e : numL (n / 10) with
        | nil => exact absurd e h0
        | cons x l => rw [e] at h; simpa using h
      have := ih (n / 10) (by omega) h1
      omega
theorem numL_bd {n : Nat} (h : n < 2 ^ 1900) : (numL n).length ≤ 620 := numL_len (by decide) (Nat.lt_of_lt_of_le h (by decide +kernel))
theorem len_txtN {n : Nat} (h : n < 2 ^ 1900) : 1 ≤ (txtN n).length ∧ (txtN n).length ≤ 620 := by
  rw [len_tl, tl_txtN]
  exact ⟨List.length_pos_iff.mpr (numL_ne n), numL_bd h⟩
theorem digA_txtN (n : Nat) : digA (txtN n) = true := by
  unfold digA
  refine List.all_eq_true.mpr fun c hc => decide_eq_true ((fig_mem c).mpr ?_)
  exact numL_digits n c (by rw [← tl_txtN]; exact hc)
theorem figIn_txtN {n : Nat} (h : n < 2 ^ 1900) : figIn (txtN n) = some (n : Int) := by
  obtain ⟨h1, h2⟩ := len_txtN h
  have e1 : PySem.intText? (txtN n) = some (n : Int) := int_num (Nat.le_trans (numL_bd h) (by decide))
  unfold figIn
  rw [digA_txtN, decide_eq_true (show (1 : Int) ≤ (txtN n).length by omega), decide_eq_true (show ((txtN n).length : Int) ≤ 4000 by omega), if_pos (by rfl), e1]
  refine if_neg ?_
  rw [nought, starts1, tl_txtN]
  intro z
  simp only [Bool.and_eq_true, decide_eq_true_eq, Bool.not_eq_true', decide_eq_false_iff_not] at z
  have e2 := head48 n z.1
  subst e2
  exact z.2 (ext_tl (by rw [tl_txtN, numL_lt (by decide)]))
theorem notDash {n : Nat} : (numL n)[0]? ≠ some 45 := fun h => by
  have h1 := List.mem_of_getElem? h
  exact numL_free (Or.inl (by decide)) h1
theorem wholeIn_txt {i : Int} (h : i.natAbs < 2 ^ 1900) : wholeIn (Str.ofString (toString i)) = some i := by
  cases i with
  | ofNat n =>
    have e0 : Str.ofString (toString (Int.ofNat n)) = txtN n := rfl
    have e : Txt.startswith (txtN n) "-" = false := by rw [dash, starts1, tl_txtN]; exact decide_eq_false notDash
    have e3 : txtN n ≠ "-0" := fun z => by
      have z2 := congrArg (fun w => (tl w)[0]?) z
      simp only [tl_txtN] at z2
      exact notDash (n := n) (by rw [z2]; rfl)
    rw [e0]
    unfold wholeIn
    rw [e, if_neg (by simp), figIn_txtN (by simpa using h)]
    unfold wholeOf
    simp only [e, Bool.false_eq_true, if_false, if_neg e3]
    rfl
  | negSucc n =>
    have et := tl_neg n
    generalize hw : Str.ofString (toString (Int.negSucc n)) = w at et
    have e : Txt.startswith w "-" = true := by rw [dash, starts1, et]; rfl
    have e2 : cutS w (some 1) none = txtN (n + 1) := by
      refine ext_tl ?_
      rw [tl_txtN]
      have l1 : w.length = (numL (n + 1)).length + 1 := by rw [len_tl, et]; rfl
      have l2 := List.length_pos_iff.mpr (numL_ne (n + 1))
      unfold cutS HT.sIx
      simp only [show ¬ ((1 : Int) < 0) by omega, if_false]
      have e1 : min (1 : Int).toNat w.length = 1 := by rw [l1]; simp
      rw [e1, tl_mk, show w.cps.toList = 45 :: numL (n + 1) from et, List.drop_one, List.tail_cons, l1]
      exact List.take_of_length_le (by omega)
    have e3 : w ≠ "-0" := fun z => by
      have z2 := congrArg tl z
      rw [et] at z2
      have z3 : numL (n + 1) = [48] := by
        have : tl ("-0" : Str) = [45, 48] := by decide
        rw [this] at z2
        exact (List.cons.inj z2).2
      have := head48 (n + 1) (by rw [z3]; rfl)
      omega
    unfold wholeIn
    rw [e, if_pos rfl, e2, figIn_txtN (by simpa using h)]
    unfold wholeOf
    simp only [e, if_true, if_neg e3]
    congr 1
theorem noStroke (i : Int) : 47 ∉ tl (Str.ofString (toString i)) := by
  cases i with
  | ofNat n => rw [show tl (Str.ofString (toString (Int.ofNat n))) = numL n from tl_num n]; exact numL_free (Or.inl (by decide))
  | negSucc n =>
    rw [tl_neg]
    intro h
    rcases List.mem_cons.mp h with h | h
    · cases h
    · exact numL_free (Or.inl (by decide)) h
theorem strokeL : tl ("/" : Str) = 47 :: [] := by decide
theorem numIn_one {i : Int} (h : i.natAbs < 2 ^ 1900) : numIn (Str.ofString (toString i)) = low i 1 := by
  have e := partition_none strokeL (noStroke i)
  unfold numIn belowIn
  rw [e]
  simp only
  rw [if_neg (by decide), wholeIn_txt h]
  rfl
theorem numIn_two {i : Int} {d : Nat} (h : i.natAbs < 2 ^ 1900) (hd : d < 2 ^ 1900) (d0 : d ≠ 0) : numIn (Str.ofString (toString i) ++ "/" ++ txtN d) = low i d := by
  have e := partition_app strokeL (b := txtN d) (noStroke i)
  unfold numIn belowIn
  rw [e]
  simp only
  rw [if_pos (by decide), wholeIn_txt h, figIn_txtN hd]
  unfold numOf
  simp only
  rw [if_neg (by omega)]
end D

namespace D
open PySem PySem.Spec PyProof.Rows L2 TL NumText
abbrev LETS : Str := "abcdefghijklmnopqrstuvwxyz"
def BARS : List Str := ["in", "out", "part", "give", "call", "repeat", "end", "plus", "less", "times", "over", "power", "most", "least", "size", "pick", "copy"]
def letA (w : Str) : Bool := w.cps.toList.all fun ch => decide (ch ∈ LETS.cps.toList)
def isNm : A → Bool
  | .str w => decide ((1 : Int) ≤ w.length) && decide ((w.length : Int) ≤ 8) && !inA (.str w) (BARS.map A.str) && letA w
  | _ => false
structure NmOk (w : Str) : Prop where
  lt : letA w = true
  lo : 1 ≤ w.length
  hi : w.length ≤ 8
def ltr (i : Int) : Str := ⟨#[LETS.cps.toList.getD i.toNat 97]⟩
theorem ltr_at {i : Int} (h0 : 0 ≤ i) (h1 : i < 26) : atI LETS.cps.toList i = some (LETS.cps.toList.getD i.toNat 97) := by
  have hl : LETS.cps.toList.length = 26 := by decide
  refine atI_pos ?_ h0
  rw [List.getElem?_eq_getElem (by omega), List.getD_eq_getElem?_getD, List.getElem?_eq_getElem (by omega)]; rfl
theorem letA_ltr (i : Int) : letA (ltr i) = true := by
  unfold letA ltr
  simp only [List.all_cons, List.all_nil, Bool.and_true, decide_eq_true_eq]
  by_cases h : i.toNat < LETS.cps.toList.length
  · rw [List.getD_eq_getElem?_getD, List.getElem?_eq_getElem h]; exact List.getElem_mem h
  · rw [List.getD_eq_getElem?_getD, List.getElem?_eq_none (by omega)]; decide
theorem letA_app (a b : Str) : letA (a ++ b) = (letA a && letA b) := by
  unfold letA
  rw [show (a ++ b).cps.toList = a.cps.toList ++ b.cps.toList from tl_append a b, List.all_append]
theorem letA_cut {w : Str} (h : letA w = true) {lo hi : Option Int} : letA (cutS w lo hi) = true := by
  unfold letA at *
  refine List.all_eq_true.mpr fun c hc => List.all_eq_true.mp h c ?_
  unfold cutS at hc
  exact List.mem_of_mem_drop (List.mem_of_mem_take (by simpa using hc))
theorem letA_tl (w : Str) : letA w = (tl w).all fun ch => decide (ch ∈ LETS.cps.toList) := rfl
theorem mem_joinL {S : List Nat} {c : Nat} : ∀ {l : List (List Nat)}, c ∈ joinL S l → c ∈ S ∨ ∃ p ∈ l, c ∈ p
  | [], h => by simp [joinL] at h
  | [p], h => .inr ⟨p, by simp, by simpa [joinL] using h⟩
  | p :: q :: r, h => by
    simp only [joinL, List.mem_append] at h
    rcases h with h | h | h
    · exact .inr ⟨p, by simp, h⟩
    · exact .inl h
    · rcases mem_joinL h with h | ⟨x, hx, h⟩
      · exact .inl h
      · exact .inr ⟨x, List.mem_cons_of_mem _ hx, h⟩
theorem letA_join {ys : List Str} (h : ∀ w ∈ ys, letA w = true) : letA (Txt.join "" ys) = true := by
  rw [letA_tl, join_eq, tl_join]
  refine List.all_eq_true.mpr fun c hc => ?_
  rcases mem_joinL hc with h1 | ⟨p, hp, h1⟩
  · rw [show tl ("" : Str) = [] by decide] at h1; cases h1
  · obtain ⟨w, hw, rfl⟩ := List.mem_map.mp hp
    exact List.all_eq_true.mp (h w hw) c h1
theorem joinL_len : ∀ {l : List (List Nat)}, (∀ p ∈ l, p.length ≤ 1) → (joinL [] l).length ≤ l.length
  | [], _ => by simp [joinL]
  | [p], h => by have := h p (by simp); simpa [joinL] using this
  | p :: q :: r, h => by
    have h1 := h p (by simp)
    have h2 := joinL_len (l := q :: r) fun x hx => h x (List.mem_cons_of_mem _ hx)
    simp only [joinL, List.length_append, List.length_nil, List.length_cons] at *
    omega
theorem len_ltrs (f : Nat → Int) (n : Nat) : (Txt.join "" ((List.range n).map fun j => ltr (f j))).length ≤ n := by
  rw [len_tl, join_eq, tl_join, show tl ("" : Str) = [] by decide]
  refine Nat.le_trans (joinL_len fun p hp => ?_) (by simp)
  obtain ⟨w, hw, rfl⟩ := List.mem_map.mp hp
  obtain ⟨j, _, rfl⟩ := List.mem_map.mp hw
  exact Nat.le_refl 1
theorem sum_ltrs (f : Nat → Int) (l : List Nat) : ((l.map fun j => ltr (f j)).map (·.length)).sum = l.length := by
  induction l with
  | nil => rfl
  | cons x l ih => rw [List.map_cons, List.map_cons, List.sum_cons, ih, List.length_cons]; show 1 + _ = _; omega
theorem cutS_hi (w : Str) (i : Int) (h : 0 ≤ i) : (cutS w none (some i)).length ≤ i.toNat := by
  unfold cutS HT.sIx
  simp only [show ¬ (i < 0) by omega, if_false]
  rw [len_tl, tl_mk, List.length_take]
  omega
theorem cutS_mid (w : Str) (i j : Int) (h : 0 ≤ i ∧ i ≤ j) : (cutS w (some i) (some j)).length ≤ (j - i).toNat := by
  unfold cutS HT.sIx
  simp only [show ¬ (i < 0) by omega, show ¬ (j < 0) by omega, if_false]
  rw [len_tl, tl_mk, List.length_take, List.length_drop]
  omega
def fixN (w : Str) : Str := if inA (.str w) (BARS.map A.str) = true then "zz" ++ cutS w none (some 1) ++ "z" else w
theorem noBar {w : Str} (h : (tl w).take 2 = [122, 122]) : inA (.str w) (BARS.map A.str) = false := by
  refine Bool.eq_false_iff.mpr fun z => ?_
  unfold inA at z
  rw [List.any_map] at z
  obtain ⟨y, hy, e⟩ := List.any_eq_true.mp z
  have e2 : y = w := by simpa [eqA] using e
  subst e2
  have k : BARS.all (fun y => (tl y).take 2 != [122, 122]) = true := by decide
  have k2 := List.all_eq_true.mp k y hy
  rw [h] at k2
  simp at k2
theorem fixN_ok {w : Str} (h : NmOk w) : isNm (.str (fixN w)) = true := by
  have h1 := h.lo
  have h2 := h.hi
  unfold fixN
  split
  · have n2 := cutS_hi w 1 (by omega)
    have e2 : ("zz" : Str).length = 2 := by decide
    have e3 : ("z" : Str).length = 1 := by decide
    have hl : ("zz" ++ cutS w none (some 1) ++ "z" : Str).length = 2 + (cutS w none (some 1)).length + 1 := by rw [Str.length_append, Str.length_append, e2, e3]
    simp only [isNm]
    rw [decide_eq_true (by omega), decide_eq_true (by omega), letA_app, letA_app, letA_cut h.lt, noBar]
    · decide
    · rw [tl_append, tl_append, show tl ("zz" : Str) = [122, 122] by decide]; rfl
  · rename_i hb
    simp only [isNm]
    rw [decide_eq_true (by omega), decide_eq_true (by omega), h.lt, Bool.eq_false_iff.mpr hb]; rfl
theorem isNm_wd {w : Str} (h : isNm (.str w) = true) : w.length ≤ 8 := by
  simp only [isNm, Bool.and_eq_true, decide_eq_true_eq] at h
  omega
end D

namespace D
open PySem PySem.Spec PyProof.Rows L2
def bodyC : Stmt → List Stmt
  | .ClassDef (body := these) .. => these
  | _ => []
def TAKENL : List (Str × Int) := [("plus", 2), ("less", 2), ("times", 2), ("over", 2), ("power", 2), ("most", 2), ("least", 2), ("size", 1), ("pick", 3), ("copy", 1)]
def insT (T : List Str) (w : Str) : List Str := if w ∈ T then T else T ++ [w]
theorem mem_insT {T : List Str} {w x : Str} : x ∈ insT T w ↔ x ∈ T ∨ x = w := by
  unfold insT
  split
  · rename_i h
    exact ⟨.inl, fun z => z.elim id fun e => e ▸ h⟩
  · simp
abbrev Tk (T : List Str) : List (Key × A) := T.map fun w => ((.inr w : Key), A.bl true)
abbrev Pk (Pn : List (Str × Int)) : List (Key × A) := Pn.map fun p => ((.inr p.1 : Key), A.int p.2)
theorem valA_Tk (w : Str) : ∀ T : List Str, valA (Tk T) (.inr w) = if w ∈ T then some (.bl true) else none
  | [] => by simp [valA]
  | x :: T => by
    have ih := valA_Tk w T
    simp only [valA, Tk, List.map_cons, List.find?_cons] at ih ⊢
    by_cases e : x = w
    · subst e; simp
    · have e2 : ¬ w = x := fun z => e z.symm
      simp only [Sum.inr.injEq, e, decide_false, List.mem_cons, e2, false_or]
      exact ih
theorem any_Tk (w : Str) (T : List Str) : ((Tk T).any fun kv => decide (kv.1 = (.inr w : Key))) = decide (w ∈ T) := by
  rw [List.any_map]
  by_cases h : w ∈ T
  · rw [decide_eq_true h]
    exact List.any_eq_true.mpr ⟨w, h, by simp⟩
  · rw [decide_eq_false h]
    refine Bool.eq_false_iff.mpr fun z => h ?_
    obtain ⟨x, hx, e⟩ := List.any_eq_true.mp z
    have e2 : x = w := by simpa using e
    exact e2 ▸ hx
theorem putA_Tk (T : List Str) (w : Str) : putA (Tk T) (.inr w) (.bl true) = Tk (insT T w) := by
  unfold putA insT
  rw [any_Tk]
  by_cases h : w ∈ T
  · rw [decide_eq_true h, if_pos rfl, if_pos h]
    unfold Tk
    rw [List.map_map]
    refine List.map_congr_left fun x _ => ?_
    simp only [Function.comp]
    split <;> rfl
  · rw [decide_eq_false h, if_neg (by simp), if_neg h]
    simp [Tk]
theorem valA_Pk (w : Str) : ∀ Pn : List (Str × Int), valA (Pk Pn) (.inr w) = (valI Pn w).map A.int
  | [] => by simp [valA, valI]
  | (x, i) :: Pn => by
    have ih := valA_Pk w Pn
    simp only [valA, valI, Pk, List.map_cons, List.find?_cons] at ih ⊢
    by_cases e : x = w
    · subst e; simp
    · simp only [Sum.inr.injEq, e, decide_false]
      exact ih
theorem putA_Pk {w : Str} {n : Int} : ∀ {Pn : List (Str × Int)}, valI Pn w = none → putA (Pk Pn) (.inr w) (.int n) = Pk (Pn ++ [(w, n)]) := by
  intro Pn h
  unfold putA
  have e : ((Pk Pn).any fun kv => decide (kv.1 = (.inr w : Key))) = false := by
    refine Bool.eq_false_iff.mpr fun z => ?_
    rw [List.any_map] at z
    obtain ⟨p, hp, e⟩ := List.any_eq_true.mp z
    have e2 : p.1 = w := by simpa using e
    unfold valI at h
    rw [Option.map_eq_none_iff, List.find?_eq_none] at h
    exact h p hp (by simp [e2])
  rw [e, if_neg (by simp)]
  simp [Pk]
def ThOk (T : List Str) (x : A) : Prop := (∃ w, x = .str w ∧ w ∈ T ∧ letA w = true ∧ w.length ≤ 8) ∨ ∃ n d, x = .tup [.int n, .int d] ∧ Fr n d
theorem ThOk.up {T T' : List Str} {x : A} (h : ThOk T x) (w : ∀ y ∈ T, y ∈ T') : ThOk T' x := by
  rcases h with ⟨a, h1, h2, h3⟩ | h
  · exact .inl ⟨a, h1, w a h2, h3⟩
  · exact .inr h
def RowOk (Pn : List (Str × Int)) (T : List Str) (w : Str) (ts : List A) : Prop :=
  (w = "call" ∧ ∃ c r, ts = .str c :: r ∧ valI Pn c = some (r.length : Int) ∧ letA c = true ∧ c.length ≤ 8 ∧ ∀ a ∈ r, ThOk T a) ∨
  (w = "power" ∧ ∃ a k, ts = [a, .int k] ∧ ThOk T a ∧ -8 ≤ k ∧ k ≤ 8) ∨
  (w ≠ "call" ∧ w ≠ "power" ∧ valI TAKENL w = some (ts.length : Int) ∧ ∀ a ∈ ts, ThOk T a)
theorem RowOk.up {Pn : List (Str × Int)} {T T' : List Str} {w : Str} {ts : List A} (h : RowOk Pn T w ts) (u : ∀ y ∈ T, y ∈ T') : RowOk Pn T' w ts := by
  rcases h with ⟨h1, c, r, h2, h3, h4, h5, h6⟩ | ⟨h1, a, k, h2, h3, h4⟩ | ⟨h1, h2, h3, h4⟩
  · exact .inl ⟨h1, c, r, h2, h3, h4, h5, fun a ha => (h6 a ha).up u⟩
  · exact .inr (.inl ⟨h1, a, k, h2, h3.up u, h4⟩)
  · exact .inr (.inr ⟨h1, h2, h3, fun a ha => (h4 a ha).up u⟩)
inductive It where
  | row (x w : Str) (ts : List A)
  | rep (n : Int) (b : List It)
mutual
def It.a : It → A
  | .row x w ts => .tup [.str "row", .str x, .str w, .tup ts]
  | .rep n b => .tup [.str "repeat", .int n, .tup (aIts b)]
def aIts : List It → List A
  | [] => []
  | i :: r => i.a :: aIts r
end
mutual
def It.told : It → List Str → List Str
  | .row x _ _, T => insT T x
  | .rep _ b, T => toldIts b T
def toldIts : List It → List Str → List Str
  | [], T => T
  | i :: r, T => toldIts r (i.told T)
end
mutual
def It.ok (Pn : List (Str × Int)) : Nat → List Str → It → Prop
  | d, T, .row x w ts => d ≤ 3 ∧ isNm (.str x) = true ∧ RowOk Pn T w ts
  | d, T, .rep n b => d < 3 ∧ 1 ≤ n ∧ n ≤ 200 ∧ okIts Pn (d + 1) T b
def okIts (Pn : List (Str × Int)) : Nat → List Str → List It → Prop
  | _, _, [] => True
  | d, T, i :: r => i.ok Pn d T ∧ okIts Pn d (i.told T) r
end
mutual
def It.size : It → Nat
  | .row _ _ _ => 1
  | .rep _ b => 1 + sizeIts b
def sizeIts : List It → Nat
  | [] => 0
  | i :: r => i.size + sizeIts r
end
mutual
def It.tsOk : It → Prop
  | .row _ _ ts => ts.length ≤ 1000
  | .rep _ b => tsIts b
def tsIts : List It → Prop
  | [] => True
  | i :: r => i.tsOk ∧ tsIts r
end
mutual
theorem told_len : ∀ (i : It) (T : List Str), (i.told T).length ≤ T.length + i.size
  | .row x _ _, T => by
    simp only [It.told, It.size, insT]
    split
    · omega
    · simp
  | .rep _ b, T => by
    simp only [It.told, It.size]
    have := tolds_len b T
    omega
theorem tolds_len : ∀ (l : List It) (T : List Str), (toldIts l T).length ≤ T.length + sizeIts l
  | [], _ => by simp [toldIts, sizeIts]
  | i :: r, T => by
    simp only [toldIts, sizeIts]
    have h1 := told_len i T
    have h2 := tolds_len r (i.told T)
    omega
end
theorem aIts_len : ∀ l : List It, (aIts l).length = l.length
  | [] => rfl
  | i :: r => by simp [aIts, aIts_len r]
theorem len_size : ∀ l : List It, l.length ≤ sizeIts l
  | [] => Nat.le_refl _
  | i :: r => by
    have := len_size r
    have : 1 ≤ i.size := by cases i <;> simp [It.size]
    simp only [sizeIts, List.length_cons]; omega
theorem strOk_let {w : Str} (h : letA w = true) : PyData.strOk w = true := by
  unfold PyData.strOk
  rw [← Array.all_toList]
  refine List.all_eq_true.mpr fun c hc => ?_
  have h1 := of_decide_eq_true (List.all_eq_true.mp h c hc)
  have h2 : LETS.cps.toList.all (fun c => decide (c < 1114112)) = true := by decide
  exact List.all_eq_true.mp h2 c h1
theorem ThOk.dat {T : List Str} {x : A} (h : ThOk T x) : isD x = true ∧ deep x ≤ 1 := by
  rcases h with ⟨w, rfl, _, h2, _⟩ | ⟨n, d, rfl, _⟩
  · exact ⟨by simp only [isD]; exact strOk_let h2, by simp [deep]⟩
  · exact ⟨rfl, by simp [deep, deeps]⟩
theorem RowOk.dat {Pn : List (Str × Int)} {T : List Str} {w : Str} {ts : List A} (h : RowOk Pn T w ts) : isDs ts = true ∧ deeps ts ≤ 1 ∧ PyData.strOk w = true ∧ ts ≠ [] := by
  have key : ∀ {l : List A}, (∀ a ∈ l, ThOk T a) → isDs l = true ∧ deeps l ≤ 1 := fun h => ⟨isDs_all fun a ha => (h a ha).dat.1, deeps_le fun a ha => (h a ha).dat.2⟩
  rcases h with ⟨rfl, c, r, rfl, _, h4, _, h6⟩ | ⟨rfl, a, k, rfl, h3, _⟩ | ⟨h1, h2, h3, h4⟩
  · obtain ⟨k1, k2⟩ := key h6
    refine ⟨by simp only [isDs, isD, k1, strOk_let h4, Bool.and_self], ?_, by decide +kernel, by simp⟩
    simp only [deeps, deep]; omega
  · obtain ⟨k1, k2⟩ := h3.dat
    refine ⟨by simp only [isDs, isD, k1, Bool.and_self], ?_, by decide +kernel, by simp⟩
    simp only [deeps, deep]; omega
  · obtain ⟨k1, k2⟩ := key h4
    have hm : ∃ i, (w, i) ∈ TAKENL ∧ 0 < i := by
      unfold valI at h3
      cases e : TAKENL.find? (fun kv => decide (kv.1 = w)) with
      | none => rw [e] at h3; cases h3
      | some p =>
        have h5 := List.mem_of_find?_eq_some e
        have h6 := List.find?_some e
        have h7 : p.1 = w := by simpa using h6
        have h8 : TAKENL.all (fun p => decide (0 < p.2)) = true := by decide
        exact ⟨p.2, h7 ▸ h5, by simpa using List.all_eq_true.mp h8 p h5⟩
    obtain ⟨i, hi, _⟩ := hm
    have h8 : TAKENL.all (fun p => PyData.strOk p.1) = true := by decide +kernel
    refine ⟨k1, k2, List.all_eq_true.mp h8 _ hi, fun z => ?_⟩
    subst z
    unfold valI at h3
    cases e : TAKENL.find? (fun kv => decide (kv.1 = w)) with
    | none => rw [e] at h3; cases h3
    | some p =>
      rw [e] at h3
      have h5 := List.mem_of_find?_eq_some e
      have h8 : TAKENL.all (fun p => decide (0 < p.2)) = true := by decide
      have h9 := List.all_eq_true.mp h8 p h5
      simp at h3 h9
      omega
theorem isNm_let {w : Str} (h : isNm (.str w) = true) : letA w = true ∧ w.length ≤ 8 ∧ 1 ≤ w.length := by
  simp only [isNm, Bool.and_eq_true, decide_eq_true_eq] at h
  exact ⟨h.2, by omega, by omega⟩
mutual
theorem It.dat {Pn : List (Str × Int)} : ∀ {i : It} {d : Nat} {T : List Str}, i.ok Pn d T → isD i.a = true ∧ deep i.a ≤ 11 - 2 * d
  | .row x w ts, d, T, h => by
    simp only [It.ok] at h
    obtain ⟨h0, h1, h2⟩ := h
    obtain ⟨k1, k2, k3, _⟩ := h2.dat
    refine ⟨?_, ?_⟩
    · simp only [It.a, isD, isDs, k1, k3, strOk_let (isNm_let h1).1, Bool.and_true, Bool.true_and]; decide +kernel
    · simp only [It.a, deep, deeps]; omega
  | .rep n b, d, T, h => by
    simp only [It.ok] at h
    obtain ⟨h1, _, _, h4⟩ := h
    obtain ⟨k1, k2⟩ := datIts h4
    refine ⟨?_, ?_⟩
    · simp only [It.a, isD, isDs, k1, Bool.and_true, Bool.true_and]; decide +kernel
    · simp only [It.a, deep, deeps]; omega
theorem datIts {Pn : List (Str × Int)} : ∀ {l : List It} {d : Nat} {T : List Str}, okIts Pn d T l → isDs (aIts l) = true ∧ deeps (aIts l) ≤ 11 - 2 * d
  | [], _, _, _ => ⟨rfl, Nat.zero_le _⟩
  | i :: r, d, T, h => by
    simp only [okIts] at h
    obtain ⟨k1, k2⟩ := It.dat h.1
    obtain ⟨k3, k4⟩ := datIts h.2
    exact ⟨by simp only [aIts, isDs, k1, k3, Bool.and_self], by simp only [aIts, deeps]; omega⟩
end
structure Pt where
  nm : Str
  ins : List Str
  body : List It
  give : Str
def Pt.a (q : Pt) : A := .tup [.str q.nm, .tup (q.ins.map A.str), .tup (aIts q.body), .str q.give]
def Pt.size (q : Pt) : Nat := 2 + q.ins.length + sizeIts q.body
structure Pt.ok (q : Pt) (Pn : List (Str × Int)) : Prop where
  nm : isNm (.str q.nm) = true
  new : valI Pn q.nm = none
  i1 : 1 ≤ q.ins.length
  i4 : q.ins.length ≤ 4
  ins : ∀ w ∈ q.ins, isNm (.str w) = true
  unl : q.ins.Nodup
  ts : tsIts q.body
  body : okIts Pn 0 q.ins q.body
  give : q.give ∈ toldIts q.body q.ins
def okPts : List (Str × Int) → List Pt → Prop
  | _, [] => True
  | Pn, q :: r => q.ok Pn ∧ okPts (Pn ++ [(q.nm, (q.ins.length : Int))]) r
def sizePts (l : List Pt) : Nat := (l.map Pt.size).sum
abbrev pnPts (l : List Pt) : List (Str × Int) := l.map fun q => (q.nm, (q.ins.length : Int))
structure Pg where
  parts : List Pt
  ins : List Str
  body : List It
  outs : List Str
def Pg.a (g : Pg) : A := .tup [.tup (g.parts.map Pt.a), .tup (g.ins.map A.str), .tup (aIts g.body), .tup (g.outs.map A.str)]
def Pg.size (g : Pg) : Nat := sizePts g.parts + g.ins.length + sizeIts g.body + g.outs.length
structure Pg.ok (g : Pg) : Prop where
  p6 : g.parts.length ≤ 6
  parts : okPts [] g.parts
  i1 : 1 ≤ g.ins.length
  i6 : g.ins.length ≤ 6
  ins : ∀ w ∈ g.ins, isNm (.str w) = true
  unl : g.ins.Nodup
  ts : tsIts g.body
  body : okIts (pnPts g.parts) 0 g.ins g.body
  o1 : 1 ≤ g.outs.length
  o4 : g.outs.length ≤ 4
  outs : ∀ w ∈ g.outs, isNm (.str w) = true ∧ w ∈ toldIts g.body g.ins
  size : g.size ≤ 80
theorem valI_none {Pn : List (Str × Int)} {w : Str} (h : valI Pn w = none) : ∀ p ∈ Pn, p.1 ≠ w := fun p hp e => by
  unfold valI at h
  rw [Option.map_eq_none_iff, List.find?_eq_none] at h
  exact h p hp (by simp [e])
theorem okPts_nodup : ∀ {l : List Pt} {Pn : List (Str × Int)}, okPts Pn l → (l.map (·.nm)).Nodup ∧ ∀ q ∈ l, ∀ p ∈ Pn, p.1 ≠ q.nm
  | [], _, _ => ⟨.nil, fun _ h => nomatch h⟩
  | q :: r, Pn, h => by
    simp only [okPts] at h
    obtain ⟨h1, h2⟩ := okPts_nodup h.2
    refine ⟨?_, fun x hx p hp => ?_⟩
    · rw [List.map_cons, List.nodup_cons]
      refine ⟨fun hm => ?_, h1⟩
      obtain ⟨x, hx, e⟩ := List.mem_map.mp hm
      exact h2 x hx (q.nm, q.ins.length) (by simp) e.symm
    · rcases List.mem_cons.mp hx with rfl | hx
      · exact valI_none h.1.new p hp
      · exact h2 x hx p (List.mem_append_left _ hp)
theorem merge_acc : ∀ (l acc : List (Key × A)), ((acc ++ l).map (·.1)).Nodup → mergeA acc l = acc ++ l
  | [], acc, _ => by simp [mergeA]
  | kv :: l, acc, h => by
    have hn : (acc.any fun x => decide (x.1 = kv.1)) = false := by
      refine Bool.eq_false_iff.mpr fun z => ?_
      obtain ⟨x, hx, e⟩ := List.any_eq_true.mp z
      rw [List.map_append, List.nodup_append] at h
      exact h.2.2 x.1 (List.mem_map.mpr ⟨x, hx, rfl⟩) kv.1 (by simp) (of_decide_eq_true e)
    have e : putA acc kv.1 kv.2 = acc ++ [kv] := by unfold putA; rw [hn, if_neg (by simp)]
    have ih := merge_acc l (acc ++ [kv]) (by simpa using h)
    unfold mergeA at ih ⊢
    rw [List.foldl_cons, e, ih]
    simp
theorem merge_nodup {l : List (Key × A)} (h : (l.map (·.1)).Nodup) : mergeA [] l = l := by simpa using merge_acc l [] (by simpa using h)
theorem merge_Tk {T : List Str} (h : T.Nodup) : mergeA [] (Tk T) = Tk T := by
  refine merge_nodup ?_
  rw [List.map_map]
  exact List.Pairwise.map _ (fun a b hab e => hab (Sum.inr.inj e)) h
def moreL : Option (List Str) → List (Key × A)
  | none => []
  | some ns => [(.inr "names", .lst (ns.map A.str))]
structure Fs where
  l : List Int
  w : Wk
abbrev dicL (fs : Fs) (l : Addr) (at_ rm : Int) (mo : Option (List Str)) : List (Key × A) := [(.inr "cells", .lst (fs.l.map A.int)), (.inr "left", .loc l), (.inr "at", .int at_), (.inr "room", .int rm)] ++ wkL fs.w ++ moreL mo
theorem dicL_at {fs : Fs} {l : Addr} {at_ rm n : Int} {mo : Option (List Str)} : putA (dicL fs l at_ rm mo) (.inr "at") (.int n) = dicL fs l n rm mo := by cases mo <;> rfl
theorem dicL_room {fs : Fs} {l : Addr} {at_ rm n : Int} {mo : Option (List Str)} : putA (dicL fs l at_ rm mo) (.inr "room") (.int n) = dicL fs l at_ n mo := by cases mo <;> rfl
theorem dicL_names {fs : Fs} {l : Addr} {at_ rm : Int} {mo : Option (List Str)} {ns : List Str} : putA (dicL fs l at_ rm mo) (.inr "names") (.lst (ns.map A.str)) = dicL fs l at_ rm (some ns) := by cases mo <;> rfl
theorem dicL_len {fs : Fs} {l : Addr} {at_ rm : Int} {mo : Option (List Str)} : (dicL fs l at_ rm mo).length ≤ 6 := by cases mo <;> simp [dicL, moreL, wkL]
structure Lx (m l : Addr) (c : Nat) (rm : Int) (mo : Option (List Str)) (μ : Mu) : Prop where
  ex : ∃ (fs : Fs) (left : List Int) (at_ : Int), μ m = some (.dic (dicL fs l at_ rm mo)) ∧ μ l = some (.lst (left.map A.int)) ∧ G64 fs.l ∧ left.length ≤ 63 ∧ 0 ≤ at_ ∧ at_ ≤ c
  ne : l ≠ m
theorem Lx.up {m l : Addr} {c d : Nat} {rm : Int} {mo : Option (List Str)} {μ : Mu} (h : Lx m l c rm mo μ) (hd : c ≤ d) : Lx m l d rm mo μ := by
  obtain ⟨⟨fs, left, a, h1, h2, h3, h4, h5, h6⟩, h7⟩ := h
  exact ⟨⟨fs, left, a, h1, h2, h3, h4, h5, by omega⟩, h7⟩
theorem Lx.sub {m l : Addr} {c : Nat} {rm : Int} {mo : Option (List Str)} {μ μ' : Mu} (h : Lx m l c rm mo μ) (s : Sub μ μ') : Lx m l c rm mo μ' := by
  obtain ⟨⟨fs, left, a, h1, h2, h3⟩, h7⟩ := h
  exact ⟨⟨fs, left, a, s _ _ h1, s _ _ h2, h3⟩, h7⟩
theorem Lx.off {m l : Addr} {c : Nat} {rm : Int} {mo : Option (List Str)} {μ : Mu} (h : Lx m l c rm mo μ) {p : Addr} (n : μ p = none) : p ≠ m ∧ p ≠ l := by
  obtain ⟨⟨fs, left, a, h1, h2, h3⟩, h7⟩ := h
  exact ⟨fun z => by (rw [z, h1] at n; cases n), fun z => by (rw [z, h2] at n; cases n)⟩
theorem Lx.set {m l : Addr} {c : Nat} {rm rm' : Int} {mo mo' : Option (List Str)} {μ : Mu} {kvs : List (Key × A)} (h : Lx m l c rm mo μ) (e : ∀ fs at_, μ m = some (.dic (dicL fs l at_ rm mo)) → kvs = dicL fs l at_ rm' mo') : Lx m l c rm' mo' (μ.upd m (.dic kvs)) := by
  obtain ⟨⟨fs, left, a, h1, h2, h3⟩, h7⟩ := h
  exact ⟨⟨fs, left, a, by rw [Mu.upd_same, e fs a h1], by rw [Mu.upd_ne h7]; exact h2, h3⟩, h7⟩
end D

namespace D
open PySem PySem.Spec PyProof.Rows L2 TL
def lt (i : Int) : Nat := LETS.cps.toList.getD i.toNat 97
theorem lt_tab : ((List.range 26).all fun a => (List.range 26).all fun b => (lt a != lt b) || a == b) = true := by decide +kernel
theorem lt_inj {a b : Int} (ha : 0 ≤ a ∧ a < 26) (hb : 0 ≤ b ∧ b < 26) (h : lt a = lt b) : a = b := by
  have h1 := List.all_eq_true.mp (List.all_eq_true.mp lt_tab a.toNat (List.mem_range.mpr (by omega))) b.toNat (List.mem_range.mpr (by omega))
  rw [Int.toNat_of_nonneg ha.1, Int.toNat_of_nonneg hb.1, h] at h1
  simp at h1
  omega
theorem tl_ltr (i : Int) : tl (ltr i) = [lt i] := rfl
def baseW (start : Int) : Str := Txt.join "" ((List.range 8).map fun (j : Nat) => ltr ((start + 5 * (0 + (j : Int))) % 26))
def baseL (start : Int) : List Nat := (List.range 8).map fun (j : Nat) => lt ((start + 5 * (0 + (j : Int))) % 26)
theorem joinL_nil : ∀ l : List (List Nat), joinL [] l = l.flatten
  | [] => rfl
  | [p] => by simp [joinL]
  | p :: q :: r => by simp only [joinL, List.nil_append, joinL_nil (q :: r), List.flatten_cons]
theorem tl_base (start : Int) : tl (baseW start) = baseL start := by
  unfold baseW baseL
  rw [join_eq, tl_join, show tl ("" : Str) = [] by decide, joinL_nil, List.map_map]
  rw [show (tl ∘ fun (j : Nat) => ltr ((start + 5 * (0 + (j : Int))) % 26)) = fun (j : Nat) => [lt ((start + 5 * (0 + (j : Int))) % 26)] from rfl]
  generalize List.range 8 = l
  induction l with
  | nil => rfl
  | cons x l ih => simp only [List.map_cons, List.flatten_cons, ih]; rfl
theorem base_len (start : Int) : (baseL start).length = 8 := by simp [baseL]
theorem base_at {start : Int} {q v : Nat} (h : (baseL start)[q]? = some v) : q < 8 ∧ v = lt ((start + 5 * (q : Int)) % 26) := by
  have hq : q < 8 := by have := (List.getElem?_eq_some_iff.mp h).1; rwa [base_len] at this
  unfold baseL at h
  rw [List.getElem?_map, List.getElem?_range hq] at h
  refine ⟨hq, ?_⟩
  have := Option.some.inj h
  rw [← this]; simp only [Int.zero_add]
theorem base_two {start : Int} {q r v : Nat} (h1 : (baseL start)[q]? = some v) (h2 : (baseL start)[r]? = some v) : q = r := by
  obtain ⟨a1, a2⟩ := base_at h1
  obtain ⟨b1, b2⟩ := base_at h2
  have := lt_inj (by omega) (by omega) (a2.symm.trans b2)
  omega
theorem tl_cut0 (w : Str) {i : Int} (h : 0 ≤ i) : tl (cutS w none (some i)) = (tl w).take i.toNat := by
  unfold cutS HT.sIx
  simp only [show ¬ (i < 0) by omega, if_false]
  rw [tl_mk, show w.cps.toList = tl w from rfl, len_tl, List.drop_zero, Nat.sub_zero]
  by_cases hh : i.toNat ≤ (tl w).length
  · rw [Nat.min_eq_left hh]
  · rw [Nat.min_eq_right (by omega), List.take_length, List.take_of_length_le (by omega)]
theorem tl_cut2 (w : Str) {i j : Int} (h : 0 ≤ i) (hj : i ≤ j) (hl : j.toNat ≤ (tl w).length) : tl (cutS w (some i) (some j)) = ((tl w).drop i.toNat).take (j.toNat - i.toNat) := by
  unfold cutS HT.sIx
  simp only [show ¬ (i < 0) by omega, show ¬ (j < 0) by omega, if_false]
  rw [tl_mk, show w.cps.toList = tl w from rfl, len_tl, Nat.min_eq_left (by omega), Nat.min_eq_left (by omega)]
def nmW (start way size at_ stride : Int) (base : Str) (k : Nat) : Str :=
  if way = 3 then ltr ((start + stride * (0 + (k : Int))) % 26) ++ cutS base none (some ((0 + (k : Int)) * stride % 8))
  else cutS base none (some at_) ++ ltr ((start + stride * (0 + (k : Int))) % 26) ++ cutS base (some (at_ + 1)) (some size)
structure NmP (start size at_ stride : Int) : Prop where
  s0 : 0 ≤ start
  a0 : 0 ≤ at_
  a1 : at_ < size
  z : size ≤ 7
  st : stride = 1 ∨ stride = 3 ∨ stride = 7 ∨ stride = 11 ∨ stride = 17 ∨ stride = 25
section
variable {start way size at_ stride : Int} {i j : Nat}
theorem mark_inj (h : NmP start size at_ stride) (hi : i < 20) (hj : j < 20) (e : lt ((start + stride * (0 + (i : Int))) % 26) = lt ((start + stride * (0 + (j : Int))) % 26)) : i = j := by
  have e2 := lt_inj ⟨Int.emod_nonneg _ (by decide), Int.emod_lt_of_pos _ (by decide)⟩ ⟨Int.emod_nonneg _ (by decide), Int.emod_lt_of_pos _ (by decide)⟩ e
  rcases h.st with rfl | rfl | rfl | rfl | rfl | rfl <;> omega
theorem tl_way3 (h : NmP start size at_ stride) : tl (nmW start 3 size at_ stride (baseW start) i) = lt ((start + stride * (0 + (i : Int))) % 26) :: (baseL start).take ((0 + (i : Int)) * stride % 8).toNat := by
  unfold nmW
  rw [if_pos rfl, tl_append, tl_ltr, tl_cut0 _ (Int.emod_nonneg _ (by decide)), tl_base]
  rfl
theorem tl_else (h : NmP start size at_ stride) (hw : way ≠ 3) : tl (nmW start way size at_ stride (baseW start) i) = (baseL start).take at_.toNat ++ lt ((start + stride * (0 + (i : Int))) % 26) :: ((baseL start).drop (at_.toNat + 1)).take (size.toNat - (at_.toNat + 1)) := by
  have h1 := h.a0
  have h2 := h.a1
  have h3 := h.z
  unfold nmW
  rw [if_neg hw, tl_append, tl_append, tl_ltr, tl_cut0 _ h1, tl_cut2 _ (by omega) (by omega) (by rw [tl_base, base_len]; omega), tl_base, List.append_assoc, show (at_ + 1).toNat = at_.toNat + 1 by omega]
  rfl
theorem else_at (h : NmP start size at_ stride) (hw : way ≠ 3) : (tl (nmW start way size at_ stride (baseW start) i))[at_.toNat]? = some (lt ((start + stride * (0 + (i : Int))) % 26)) := by
  have h1 := h.a0
  have h2 := h.a1
  have h3 := h.z
  rw [tl_else h hw]
  have e : ((baseL start).take at_.toNat).length = at_.toNat := by rw [List.length_take, base_len]; omega
  rw [List.getElem?_append_right (by omega), e, Nat.sub_self]; rfl
theorem else_off (h : NmP start size at_ stride) (hw : way ≠ 3) {q v : Nat} (hq : q ≠ at_.toNat) (e : (tl (nmW start way size at_ stride (baseW start) i))[q]? = some v) : (baseL start)[q]? = some v := by
  have h1 := h.a0
  have h2 := h.a1
  have h3 := h.z
  rw [tl_else h hw] at e
  have el : ((baseL start).take at_.toNat).length = at_.toNat := by rw [List.length_take, base_len]; omega
  by_cases hlt : q < at_.toNat
  · rw [List.getElem?_append_left (by omega), List.getElem?_take, if_pos hlt] at e
    exact e
  · rw [List.getElem?_append_right (by omega), el, show q - at_.toNat = (q - at_.toNat - 1) + 1 by omega, List.getElem?_cons_succ, List.getElem?_take] at e
    split at e
    · rw [List.getElem?_drop, show at_.toNat + 1 + (q - at_.toNat - 1) = q by omega] at e
      exact e
    · cases e
theorem else_same (h : NmP start size at_ stride) (hw : way ≠ 3) {q : Nat} (hq : q ≠ at_.toNat) : (tl (nmW start way size at_ stride (baseW start) i))[q]? = (tl (nmW start way size at_ stride (baseW start) j))[q]? := by
  have h1 := h.a0
  have h2 := h.a1
  have h3 := h.z
  rw [tl_else h hw, tl_else h hw]
  have el : ((baseL start).take at_.toNat).length = at_.toNat := by rw [List.length_take, base_len]; omega
  by_cases hlt : q < at_.toNat
  · rw [List.getElem?_append_left (by omega), List.getElem?_append_left (by omega)]
  · rw [List.getElem?_append_right (by omega), List.getElem?_append_right (by omega), el, show q - at_.toNat = (q - at_.toNat - 1) + 1 by omega, List.getElem?_cons_succ, List.getElem?_cons_succ]
theorem else_len (h : NmP start size at_ stride) (hw : way ≠ 3) : (tl (nmW start way size at_ stride (baseW start) i)).length = (tl (nmW start way size at_ stride (baseW start) j)).length := by
  rw [tl_else h hw, tl_else h hw]; simp
theorem nm_inj (h : NmP start size at_ stride) (hi : i < 20) (hj : j < 20) (e : nmW start way size at_ stride (baseW start) i = nmW start way size at_ stride (baseW start) j) : i = j := by
  by_cases hw : way = 3
  · subst hw
    have e2 := congrArg tl e
    rw [tl_way3 h, tl_way3 h] at e2
    exact mark_inj h hi hj (List.cons.inj e2).1
  · have e2 := congrArg (fun w => (tl w)[at_.toNat]?) e
    rw [else_at h hw, else_at h hw] at e2
    exact mark_inj h hi hj (Option.some.inj e2)
theorem barsFar : (BARS.all fun a => BARS.all fun b => decide (a = b) || (List.range 7).all fun p => !((tl a).length == (tl b).length && ((List.range 8).all fun q => q == p + 1 || (tl a)[q]? == (tl b)[q]?))) = true := by decide +kernel
theorem in_bars {w : Str} (h : inA (.str w) (BARS.map A.str) = true) : w ∈ BARS := by
  unfold inA at h
  rw [List.any_map] at h
  obtain ⟨y, hy, e⟩ := List.any_eq_true.mp h
  have e2 : y = w := by simpa [eqA] using e
  exact e2 ▸ hy
theorem tl_fix {w : Str} : tl ("zz" ++ cutS w none (some 1) ++ "z") = [122, 122] ++ (tl w).take 1 ++ [122] := by
  rw [tl_append, tl_append, tl_cut0 _ (by decide)]
  rw [show tl ("zz" : Str) = [122, 122] by decide, show tl ("z" : Str) = [122] by decide]
  rfl
theorem noZ (h : NmP start size at_ stride) {x : Nat} : tl (nmW start way size at_ stride (baseW start) i) ≠ [122, 122, x, 122] := by
  intro e
  by_cases hw : way = 3
  · subst hw
    rw [tl_way3 h] at e
    have e2 := (List.cons.inj e).2
    have f1 : (baseL start)[0]? = some 122 := by
      have := congrArg (fun l => l[0]?) e2
      simp only [List.getElem?_take] at this
      split at this
      · exact this
      · cases this
    have f2 : (baseL start)[2]? = some 122 := by
      have := congrArg (fun l => l[2]?) e2
      simp only [List.getElem?_take] at this
      split at this
      · exact this
      · cases this
    exact absurd (base_two f1 f2) (by decide)
  · have g : ∀ q : Nat, q ≠ at_.toNat → ([122, 122, x, 122] : List Nat)[q]? = some 122 → (baseL start)[q]? = some 122 := fun q hq e2 => else_off (i := i) h hw hq (by rw [e]; exact e2)
    by_cases h0 : at_.toNat = 0
    · exact absurd (base_two (g 1 (by omega) rfl) (g 3 (by omega) rfl)) (by decide)
    · by_cases h1 : at_.toNat = 1
      · exact absurd (base_two (g 0 (by omega) rfl) (g 3 (by omega) rfl)) (by decide)
      · exact absurd (base_two (g 0 (by omega) rfl) (g 1 (by omega) rfl)) (by decide)
theorem take1 {l : List Nat} (h : l ≠ []) : ∃ x, l.take 1 = [x] ∧ l[0]? = some x := by
  cases l with
  | nil => exact absurd rfl h
  | cons x l => exact ⟨x, rfl, rfl⟩
theorem nm_ne (h : NmP start size at_ stride) : tl (nmW start way size at_ stride (baseW start) i) ≠ [] := by
  by_cases hw : way = 3
  · subst hw; rw [tl_way3 h]; simp
  · rw [tl_else h hw]; simp
theorem fix_inj (h : NmP start size at_ stride) (hi : i < 20) (hj : j < 20) (e : fixN (nmW start way size at_ stride (baseW start) i) = fixN (nmW start way size at_ stride (baseW start) j)) : i = j := by
  obtain ⟨x, x1, x2⟩ := take1 (nm_ne (way := way) (i := i) h)
  obtain ⟨y, y1, y2⟩ := take1 (nm_ne (way := way) (i := j) h)
  unfold fixN at e
  split at e
  · rename_i bi
    have e1 := congrArg tl e
    rw [tl_fix, x1] at e1
    split at e
    · rename_i bj
      rw [if_pos bj, tl_fix, y1] at e1
      have exy : x = y := by simpa using e1
      subst exy
      by_cases hw : way = 3
      · subst hw
        rw [tl_way3 h] at x2 y2
        simp only [List.getElem?_cons_zero, Option.some.injEq] at x2 y2
        exact mark_inj h hi hj (x2.trans y2.symm)
      · by_cases h0 : at_.toNat = 0
        · have a1 := else_at (i := i) h hw
          have a2 := else_at (i := j) h hw
          rw [h0] at a1 a2
          exact mark_inj h hi hj (Option.some.inj (a1.symm.trans (x2.trans (y2.symm.trans a2))))
        · have hz := h.z
          have ha1 := h.a1
          have ha0 := h.a0
          have far := List.all_eq_true.mp (List.all_eq_true.mp barsFar _ (in_bars bi)) _ (in_bars bj)
          simp only [Bool.or_eq_true, decide_eq_true_eq] at far
          rcases far with far | far
          · exact nm_inj h hi hj far
          · have f2 := List.all_eq_true.mp far (at_.toNat - 1) (List.mem_range.mpr (by omega))
            rw [else_len (i := i) (j := j) h hw] at f2
            simp only [beq_self_eq_true, Bool.true_and, Bool.not_eq_true'] at f2
            have f3 : ((List.range 8).all fun q => q == at_.toNat - 1 + 1 || (tl (nmW start way size at_ stride (baseW start) i))[q]? == (tl (nmW start way size at_ stride (baseW start) j))[q]?) = true := by
              refine List.all_eq_true.mpr fun q _ => ?_
              by_cases hq : q = at_.toNat
              · have : (q == at_.toNat - 1 + 1) = true := by rw [beq_iff_eq]; omega
                rw [this]; rfl
              · rw [else_same (i := i) (j := j) h hw hq]; simp
            rw [f3] at f2; cases f2
    · rename_i bj
      rw [if_neg bj] at e1
      exact absurd e1.symm (noZ h)
  · rename_i bi
    split at e
    · have e1 := congrArg tl e
      rename_i bj
      rw [tl_fix, y1] at e1
      exact absurd e1 (noZ h)
    · exact nm_inj h hi hj e
theorem names_unlike (h : NmP start size at_ stride) {many : Nat} (hm : many ≤ 20) : (((List.range many).map (nmW start way size at_ stride (baseW start))).map fixN).Nodup := by
  rw [List.map_map]
  exact List.Pairwise.map (R := fun a b => a < many ∧ b < many ∧ a < b) _ (fun a b ⟨ha, hb, hab⟩ e => by
    have := fix_inj (way := way) h (i := a) (j := b) (by omega) (by omega) e
    omega) (List.Pairwise.imp_of_mem (fun ha hb hab => ⟨List.mem_range.mp ha, List.mem_range.mp hb, hab⟩) List.pairwise_lt_range)
end
end D

namespace D
open PySem PySem.Spec PyProof.Rows L2
theorem Lx.del {m l p : Addr} {c : Nat} {rm : Int} {mo : Option (List Str)} {μ : Mu} (h : Lx m l c rm mo μ) (h1 : p ≠ m) (h2 : p ≠ l) {o : MO} : Lx m l c rm mo (μ.upd p o) := by
  obtain ⟨⟨fs, left, a, g1, g2, g3⟩, h7⟩ := h
  exact ⟨⟨fs, left, a, by rw [Mu.upd_ne (Ne.symm h1)]; exact g1, by rw [Mu.upd_ne (Ne.symm h2)]; exact g2, g3⟩, h7⟩
def ThSm (x : A) : Prop := isShow x = true ∧ shl x ≤ 2000 ∧ ∀ n d : Int, x = .tup [.int n, .int d] → n.natAbs ≤ 10 ^ 20 ∧ d ≤ 9
theorem let_lt {w : Str} (h : letA w = true) : ∀ c ∈ w.cps.toList, c < 16 ^ 8 := fun c hc => by
  have h1 := of_decide_eq_true (List.all_eq_true.mp h c hc)
  have h2 : LETS.cps.toList.all (fun c => decide (c < 16 ^ 8)) = true := by decide
  exact of_decide_eq_true (List.all_eq_true.mp h2 c h1)
theorem shl_let {w : Str} (h : letA w = true) (hl : w.length ≤ 8) : shl (.str w) ≤ 82 := by
  have := StrLaws.reprText_len w (let_lt h)
  simp only [shl]; omega
theorem thSm_str {w : Str} (h : letA w = true) (hl : w.length ≤ 8) : ThSm (.str w) := ⟨rfl, Nat.le_trans (shl_let h hl) (by decide), fun _ _ e => nomatch e⟩
theorem log_small {n : Int} (h : n.natAbs ≤ 10 ^ 20) : n.natAbs.log2 < 1920 := by
  by_cases h0 : n.natAbs = 0
  · rw [h0]; decide
  · have h1 : n.natAbs.log2 < 70 := (Nat.log2_lt h0).mpr (Nat.lt_of_le_of_lt h (by decide))
    omega
theorem shl_int (n : Int) : shl (.int n) ≤ 1922 := by simp only [shl]; split <;> omega
theorem thSm_fr {n d : Int} (h : n.natAbs ≤ 10 ^ 20) (d0 : 1 ≤ d) (hd : d ≤ 9) : ThSm (.tup [.int n, .int d]) := by
  refine ⟨?_, ?_, fun n' d' e => by cases e; exact ⟨h, hd⟩⟩
  · simp only [isShow, isShows, Bool.and_true, Bool.and_eq_true, decide_eq_true_eq]
    exact ⟨log_small h, log_small (Nat.le_trans (show d.natAbs ≤ 9 by omega) (by decide))⟩
  · have h1 := shl_int n
    have h2 : shl (.int d) = 20 := by simp only [shl]; rw [if_pos (Nat.lt_of_le_of_lt (show d.natAbs ≤ 9 by omega) (by decide))]
    simp only [shl, shls] at h1 h2 ⊢
    omega
theorem thSm_int {k : Int} (h : k.natAbs ≤ 9) : ThSm (.int k) := by
  refine ⟨by simp only [isShow, decide_eq_true_eq]; exact log_small (Nat.le_trans h (by decide)), Nat.le_trans (shl_int k) (by decide), fun _ _ e => nomatch e⟩
theorem sm_list : ∀ {l : List A}, (∀ a ∈ l, ThSm a) → isShows l = true ∧ shls l ≤ 2002 * l.length
  | [], _ => ⟨rfl, Nat.le_refl _⟩
  | x :: l, h => by
    obtain ⟨h1, h2⟩ := sm_list fun a ha => h a (List.mem_cons_of_mem _ ha)
    obtain ⟨h3, h4, _⟩ := h x (List.mem_cons_self ..)
    exact ⟨by simp only [isShows, h1, h3, Bool.and_self], by simp only [shls, List.length_cons]; omega⟩
def RowSm (w : Str) (ts : List A) : Prop := ts.length ≤ 5 ∧ (∀ a ∈ ts, ThSm a) ∧ shl (.str w) ≤ 200
mutual
def It.sm : It → Prop
  | .row x w ts => shl (.str x) ≤ 82 ∧ RowSm w ts
  | .rep n b => 0 ≤ n ∧ n ≤ 5 ∧ smIts b
def smIts : List It → Prop
  | [] => True
  | i :: r => i.sm ∧ smIts r
end
mutual
theorem It.sm_shl : ∀ {i : It}, i.sm → isShow i.a = true ∧ shl i.a + 2 ≤ 12000 * i.size
  | .row x w ts, h => by
    simp only [It.sm] at h
    obtain ⟨h0, h1, h2, h3⟩ := h
    obtain ⟨g1, g2⟩ := sm_list h2
    have e0 : shl (.str "row") ≤ 82 := by decide +kernel
    refine ⟨by simp only [It.a, isShow, isShows, g1, Bool.and_self], ?_⟩
    simp only [It.a, It.size]
    rw [shl, shls, shls, shls, shls, shls, shl.eq_7]
    omega
  | .rep n b, h => by
    simp only [It.sm] at h
    obtain ⟨h0, h1, h2⟩ := h
    obtain ⟨g1, g2⟩ := smIts_shl h2
    have e0 : shl (.str "repeat") ≤ 100 := by decide +kernel
    have e1 := shl_int n
    refine ⟨by simp only [It.a, isShow, isShows, g1, Bool.and_true, Bool.true_and, decide_eq_true_eq]; exact log_small (Nat.le_trans (show n.natAbs ≤ 5 by omega) (by decide)), ?_⟩
    simp only [It.a, It.size]
    rw [shl, shls, shls, shls, shls, shl.eq_7]
    omega
theorem smIts_shl : ∀ {l : List It}, smIts l → isShows (aIts l) = true ∧ shls (aIts l) ≤ 12000 * sizeIts l
  | [], _ => ⟨rfl, Nat.zero_le _⟩
  | i :: r, h => by
    simp only [smIts] at h
    obtain ⟨h1, h2⟩ := It.sm_shl h.1
    obtain ⟨h3, h4⟩ := smIts_shl h.2
    exact ⟨by simp only [aIts, isShows, h1, h3, Bool.and_self], by simp only [aIts, shls, sizeIts]; omega⟩
end
mutual
theorem It.sm_ts : ∀ {i : It}, i.sm → i.tsOk
  | .row x w ts, h => by simp only [It.sm] at h; simp only [It.tsOk]; have := h.2.1; omega
  | .rep n b, h => by simp only [It.sm] at h; simp only [It.tsOk]; exact smIts_ts h.2.2
theorem smIts_ts : ∀ {l : List It}, smIts l → tsIts l
  | [], _ => trivial
  | i :: r, h => by simp only [smIts] at h; simp only [tsIts]; exact ⟨It.sm_ts h.1, smIts_ts h.2⟩
end
theorem aIts_snoc (i : It) : ∀ b : List It, aIts (b ++ [i]) = aIts b ++ [i.a]
  | [] => rfl
  | x :: b => by simp only [List.cons_append, aIts, aIts_snoc i b]
theorem told_snoc (i : It) : ∀ (b : List It) (T : List Str), toldIts (b ++ [i]) T = i.told (toldIts b T)
  | [], _ => by simp only [List.nil_append, toldIts]
  | x :: b, T => by simp only [List.cons_append, toldIts, told_snoc i b]
theorem size_snoc (i : It) : ∀ b : List It, sizeIts (b ++ [i]) = sizeIts b + i.size
  | [] => by simp [sizeIts]
  | x :: b => by simp only [List.cons_append, sizeIts, size_snoc i b]; omega
theorem sm_snoc {i : It} (hi : i.sm) : ∀ {b : List It}, smIts b → smIts (b ++ [i])
  | [], _ => by simp only [List.nil_append, smIts]; exact ⟨hi, trivial⟩
  | x :: b, h => by simp only [smIts] at h; simp only [List.cons_append, smIts]; exact ⟨h.1, sm_snoc hi h.2⟩
theorem ok_snoc {Pn : List (Str × Int)} {i : It} : ∀ {b : List It} {d : Nat} {T : List Str}, okIts Pn d T b → i.ok Pn d (toldIts b T) → okIts Pn d T (b ++ [i])
  | [], d, T, _, h => by simp only [List.nil_append, okIts]; exact ⟨by simpa only [toldIts] using h, trivial⟩
  | x :: b, d, T, h, hi => by
    simp only [okIts] at h
    simp only [toldIts] at hi
    simp only [List.cons_append, okIts]
    exact ⟨h.1, ok_snoc h.2 hi⟩
mutual
theorem It.ok_down {Pn : List (Str × Int)} : ∀ {i : It} {d : Nat} {T : List Str}, i.ok Pn (d + 1) T → i.ok Pn d T
  | .row x w ts, d, T, h => by simp only [It.ok] at h ⊢; exact ⟨by omega, h.2⟩
  | .rep n b, d, T, h => by simp only [It.ok] at h ⊢; exact ⟨by omega, h.2.1, h.2.2.1, okIts_down h.2.2.2⟩
theorem okIts_down {Pn : List (Str × Int)} : ∀ {l : List It} {d : Nat} {T : List Str}, okIts Pn (d + 1) T l → okIts Pn d T l
  | [], _, _, _ => trivial
  | i :: r, d, T, h => by simp only [okIts] at h ⊢; exact ⟨It.ok_down h.1, okIts_down h.2⟩
end
def Same (T T0 : List Str) : Prop := ∀ w, w ∈ T ↔ w ∈ T0
theorem Same.refl (T : List Str) : Same T T := fun _ => .rfl
mutual
theorem told_same : ∀ (i : It) {T T0 : List Str}, Same T T0 → Same (i.told T) (i.told T0)
  | .row x w ts, T, T0, h => fun v => by simp only [It.told, mem_insT]; rw [h v]
  | .rep n b, T, T0, h => by simp only [It.told]; exact tolds_same b h
theorem tolds_same : ∀ (l : List It) {T T0 : List Str}, Same T T0 → Same (toldIts l T) (toldIts l T0)
  | [], _, _, h => by simp only [toldIts]; exact h
  | i :: r, _, _, h => by simp only [toldIts]; exact tolds_same r (told_same i h)
end
theorem ThOk.same {T T0 : List Str} {x : A} (h : ThOk T x) (s : Same T T0) : ThOk T0 x := h.up fun y hy => (s y).mp hy
theorem RowOk.same {Pn : List (Str × Int)} {T T0 : List Str} {w : Str} {ts : List A} (h : RowOk Pn T w ts) (s : Same T T0) : RowOk Pn T0 w ts := h.up fun y hy => (s y).mp hy
mutual
theorem It.ok_same {Pn : List (Str × Int)} : ∀ {i : It} {d : Nat} {T T0 : List Str}, i.ok Pn d T → Same T T0 → i.ok Pn d T0
  | .row x w ts, d, T, T0, h, s => by simp only [It.ok] at h ⊢; exact ⟨h.1, h.2.1, h.2.2.same s⟩
  | .rep n b, d, T, T0, h, s => by simp only [It.ok] at h ⊢; exact ⟨h.1, h.2.1, h.2.2.1, okIts_same h.2.2.2 s⟩
theorem okIts_same {Pn : List (Str × Int)} : ∀ {l : List It} {d : Nat} {T T0 : List Str}, okIts Pn d T l → Same T T0 → okIts Pn d T0 l
  | [], _, _, _, _, _ => trivial
  | i :: r, d, T, T0, h, s => by simp only [okIts] at h ⊢; exact ⟨It.ok_same h.1 s, okIts_same h.2 (told_same i s)⟩
end
def putT (T : List Str) (w : Str) : List Str := T.filter (fun x => decide (x ≠ w)) ++ [w]
theorem putT_same (T : List Str) (w : Str) : Same (putT T w) (insT T w) := fun v => by
  rw [mem_insT]
  simp only [putT, List.mem_append, List.mem_filter, List.mem_singleton, decide_eq_true_eq]
  constructor
  · rintro (⟨h, _⟩ | h)
    · exact .inl h
    · exact .inr h
  · rintro (h | h)
    · by_cases e : v = w
      · exact .inr e
      · exact .inl ⟨h, e⟩
    · exact .inr h
theorem putT_len (T : List Str) (w : Str) : (putT T w).length ≤ T.length + 1 := by
  simp only [putT, List.length_append, List.length_singleton]
  have := List.length_filter_le (fun x => decide (x ≠ w)) T
  omega
theorem putT_ne (T : List Str) (w : Str) : putT T w ≠ [] := by simp [putT]
theorem putT_all {P : Str → Prop} {T : List Str} {w : Str} (h : ∀ x ∈ T, P x) (hw : P w) : ∀ x ∈ putT T w, P x := fun x hx => by
  rcases List.mem_append.mp hx with h1 | h1
  · exact h x (List.mem_filter.mp h1).1
  · rw [List.mem_singleton.mp h1]; exact hw
theorem shls_nms : ∀ {l : List Str}, (∀ w ∈ l, isNm (.str w) = true) → isShows (l.map A.str) = true ∧ shls (l.map A.str) ≤ 84 * l.length
  | [], _ => ⟨rfl, Nat.le_refl _⟩
  | w :: l, h => by
    obtain ⟨h1, h2⟩ := shls_nms fun a ha => h a (List.mem_cons_of_mem _ ha)
    obtain ⟨g1, g2, _⟩ := isNm_let (h w (List.mem_cons_self ..))
    have g3 := shl_let g1 g2
    exact ⟨by simp only [List.map_cons, isShows, h1]; rfl, by simp only [List.map_cons, shls, List.length_cons]; omega⟩
structure Pt.sm (q : Pt) : Prop where
  nm : isNm (.str q.nm) = true
  ins : ∀ w ∈ q.ins, isNm (.str w) = true
  body : smIts q.body
  give : isNm (.str q.give) = true
theorem Pt.sm_shl {q : Pt} (h : q.sm) : isShow q.a = true ∧ shl q.a + 2 ≤ 12000 * q.size := by
  obtain ⟨a1, a2⟩ := smIts_shl h.body
  obtain ⟨b1, b2⟩ := shls_nms h.ins
  obtain ⟨g1, g2, _⟩ := isNm_let h.nm
  obtain ⟨k1, k2, _⟩ := isNm_let h.give
  have g3 := shl_let g1 g2
  have k3 := shl_let k1 k2
  refine ⟨by simp only [Pt.a, isShow, isShows, a1, b1, Bool.and_self], ?_⟩
  simp only [Pt.a, Pt.size]
  rw [shl, shls, shls, shls, shls, shls, shl.eq_7, shl.eq_7]
  omega
theorem shls_pts : ∀ {l : List Pt}, (∀ q ∈ l, q.sm) → isShows (l.map Pt.a) = true ∧ shls (l.map Pt.a) ≤ 12000 * sizePts l
  | [], _ => ⟨rfl, Nat.zero_le _⟩
  | q :: l, h => by
    obtain ⟨h1, h2⟩ := shls_pts fun a ha => h a (List.mem_cons_of_mem _ ha)
    obtain ⟨g1, g2⟩ := Pt.sm_shl (h q (List.mem_cons_self ..))
    refine ⟨by simp only [List.map_cons, isShows, g1, h1, Bool.and_self], ?_⟩
    simp only [List.map_cons, shls, sizePts, List.map_cons, List.sum_cons] at h2 ⊢
    omega
structure Pg.sm (g : Pg) : Prop where
  parts : ∀ q ∈ g.parts, q.sm
  body : smIts g.body
theorem Pg.show {g : Pg} (ok : g.ok) (h : g.sm) : ShowOk g.a := by
  obtain ⟨a1, a2⟩ := smIts_shl h.body
  obtain ⟨b1, b2⟩ := shls_nms ok.ins
  obtain ⟨c1, c2⟩ := shls_nms (l := g.outs) fun w hw => (ok.outs w hw).1
  obtain ⟨d1, d2⟩ := shls_pts h.parts
  have hz := ok.size
  refine ⟨by simp only [Pg.a, isShow, isShows, a1, b1, c1, d1, Bool.and_self], ?_, ?_⟩
  · have e1 := (datIts ok.body).2
    have e2 : ∀ l : List Str, deeps (l.map A.str) ≤ 0 := fun l => deeps_le fun a ha => by
      obtain ⟨w, _, rfl⟩ := List.mem_map.mp ha
      simp [deep]
    have e3 : ∀ {l : List Pt} {Pn : List (Str × Int)}, okPts Pn l → deeps (l.map Pt.a) ≤ 13 := by
      intro l
      induction l with
      | nil => intro _ _; simp [deeps]
      | cons q l ih =>
        intro Pn h
        simp only [okPts] at h
        have i1 := ih h.2
        have i2 := (datIts h.1.body).2
        have i3 := e2 q.ins
        simp only [List.map_cons, deeps, Pt.a, deep]
        omega
    have f1 := e2 g.ins
    have f2 := e2 g.outs
    have f3 := e3 ok.parts
    simp only [Pg.a, deep, deeps]
    omega
  · simp only [Pg.size] at hz
    simp only [Pg.a]
    rw [shl, shls, shls, shls, shls, shls, shl.eq_7, shl.eq_7, shl.eq_7, shl.eq_7]
    have : sizeLine = 16777216 := rfl
    omega
end D

namespace D
open PySem PySem.Spec PyProof.Rows L2
section
variable {X : Cx} {μ : Mu} {Q : A → Mu → Prop} {k : Nat}
def rInT (K : PySem.W.Frag) : R2 := fun x y H Q => ∃ d ds, Dp K H x d ∧ Dp K H y (.tuple ds) ∧ SeqAt.shaped d = true ∧ SeqAt.shaped (.tuple ds) = true ∧ Q (.bl (ds.any fun z => PyData.eqv z d)) H
theorem op_inT (hu : X.A.units + 65 < cLine) : OpR X (compareOp .In) (rInT X.K) := by
  intro pins s σ H a b va vb Q I left right ⟨d, ds, dl, dr, sd, se, q⟩
  have ⟨_, whole⟩ := Dp.reads I (.tuple ds) b vb dr right
  have ⟨_, one⟩ := Dp.reads I d a va dl left
  exact SeqAt.in_tuple_reads whole one (SeqAt.canLay_of_shaped se) (SeqAt.canLay_of_shaped sd) (room_in_shaped sd hu) ⟨.bl _, H, I, rfl, q⟩
theorem Ar.u65 (h : Ar X k) : X.A.units + 65 < cLine := by have := h.room.un; omega
theorem wO_inT {x : A} {xs : List A} (hu : X.A.units + 65 < cLine) (hx : DatOk x) (hy : DatOk (.tup xs)) (q : Q (.bl ((toDs xs).any fun z => PyData.eqv z (toD x))) μ) : wO X (compareOp .In) x (.tup xs) μ Q :=
  wO_of (op_inT hu) fun M F H v w rl r1 r2 => ⟨_, _, dp_of hx.1 (r1.mono rl.sub), dp_of hy.1 (r2.mono rl.sub), hx.shaped, hy.shaped, .pure rl (rep_bl.mpr rfl) q⟩
end
end D

namespace D
open PySem PySem.Spec PyProof.Rows L2 SeqAt
theorem str_eq_dec (b : Str) (u : Tok) (l : Addr) (c : Value) (es) (ep) (dd : Option Addr) (sl : Array (Option Value)) :
    Meets (Builtin.«str.__eq__» ⟨[.str b u, .ref l], []⟩) (fun _ R s => s.heap.get? l = some { cls := c, dict := dd, data := .dict es ep, slots := sl } ∧ R (.ok (.ret .notImplemented)) s) :=
  .of_wp fun prog w A R s h => by obtain ⟨hp, g, d, tk, os⟩ := s; obtain ⟨hl, h⟩ := h; wp_walk using wpAny_loadPart' hl, wpAny_load hl; exact ⟨_, rfl, h⟩
theorem str_ne_dec (b : Str) (u : Tok) (l : Addr) (c : Value) (es) (ep) (dd : Option Addr) (sl : Array (Option Value)) :
    Meets (Builtin.«str.__ne__» ⟨[.str b u, .ref l], []⟩) (fun _ R s => s.heap.get? l = some { cls := c, dict := dd, data := .dict es ep, slots := sl } ∧ R (.ok (.ret .notImplemented)) s) :=
  .of_wp fun prog w A R s h => by obtain ⟨hp, g, d, tk, os⟩ := s; obtain ⟨hl, h⟩ := h; wp_walk using wpAny_loadPart' hl, wpAny_load hl; exact ⟨_, rfl, h⟩
section
variable {A : Around} {s : Shared} {prog : Program} {w : World}
theorem rcp_dict_str {a : Addr} {ks : List (Key × Value)} {b : Str} {u : Tok} (da : s.heap.DictOf (mixKind prog w) a ks) (hu : A.units < cLine) (E Q : Value → Shared → Prop) (h : Q (.bool false) s) : wpAny (model prog w) A (richCompare .Eq (.ref a) (.str b u)) Q E s := by
  have ht := da.typeIs
  obtain ⟨⟨cls, dd, data, sl⟩, es, ep, ho, hex, hd, hrest⟩ := id da
  simp only at hd
  subst hd
  refine rc_eq_decline_or (k := false) ht (typeIs_str s b u) (by decide) F.sub_str_dict F.slot_dict_eq F.slot_str_eq_refl (fun Q' hq => ?_)
    (fun _ hq => call_meets F.slot_str_eq_refl (typeIs_str s b u) F.entry_str_eq (F.args_str_eq_2 _ _) (str_eq_dec b u a cls es ep dd sl) ⟨ho, hq⟩)
    (fun _ hq => wpAny_of_eq (rfl : isSame (.ref a) (.str b u) = pure false) hq) (.inr hu) h
  refine wpAny_call_entry F.slot_dict_eq ht F.entry_dict_eq ?_ (F.args_dict_eq_2 _ _)
  show wpAny _ _ (Builtin.Dict.dictSlotArgs "__eq__" ⟨[.ref a, .str b u], []⟩ >>= _) _ _ s
  refine wpAny_bind ?_
  unfold Builtin.Dict.dictSlotArgs
  refine wpAny_bind (wpAny_notOrdered_dict ht ?_)
  show wpAny _ _ (pure (Value.ref a, Value.str b u)) _ _ s
  refine wpAny_pure ?_
  refine wpAny_bind (wpAny_isInstance (T := "str") (typeIs_str s b u) F.sub_str_dict ?_)
  simp only [Bool.not_false, if_true]
  exact wpAny_bind (wpAny_rule (wpAny_pure ⟨_, rfl, hq⟩))
theorem rcn_dict_str {a : Addr} {ks : List (Key × Value)} {b : Str} {u : Tok} (da : s.heap.DictOf (mixKind prog w) a ks) (hu : A.units < cLine) (E Q : Value → Shared → Prop) (h : Q (.bool true) s) : wpAny (model prog w) A (richCompare .NotEq (.ref a) (.str b u)) Q E s := by
  have ht := da.typeIs
  obtain ⟨⟨cls, dd, data, sl⟩, es, ep, ho, hex, hd, hrest⟩ := id da
  simp only at hd
  subst hd
  refine rc_ne_decline_or (k := false) ht (typeIs_str s b u) (by decide) F.sub_str_dict F.slot_dict_ne F.slot_str_ne_refl (fun Q' hq => ?_)
    (fun _ hq => call_meets F.slot_str_ne_refl (typeIs_str s b u) F.entry_str_ne (F.args_str_ne_2 _ _) (str_ne_dec b u a cls es ep dd sl) ⟨ho, hq⟩)
    (fun _ hq => wpAny_of_eq (rfl : isSame (.ref a) (.str b u) = pure false) hq) (.inr hu) h
  refine wpAny_call_entry F.slot_dict_ne ht F.entry_dict_ne ?_ (F.args_dict_ne_2 _ _)
  show wpAny _ _ (Builtin.Dict.dictSlotArgs "__ne__" ⟨[.ref a, .str b u], []⟩ >>= _) _ _ s
  refine wpAny_bind ?_
  unfold Builtin.Dict.dictSlotArgs
  refine wpAny_bind (wpAny_notOrdered_dict ht ?_)
  show wpAny _ _ (pure (Value.ref a, Value.str b u)) _ _ s
  refine wpAny_pure ?_
  refine wpAny_bind (wpAny_isInstance (T := "str") (typeIs_str s b u) F.sub_str_dict ?_)
  simp only [Bool.not_false, if_true]
  exact wpAny_bind (wpAny_rule (wpAny_pure ⟨_, rfl, hq⟩))
end
section
variable {X : Cx}
def Box (K : PySem.W.Frag) (H : Hp) (a : Addr) : Prop := (∃ xs, SqL K H a xs) ∨ (∃ xs, SqT K H a xs) ∨ ∃ ks, H a = some (.dK ks)
def rEqB (K : PySem.W.Frag) : R2 := fun x y H Q => ∃ a b, x = .ref a ∧ y = .str b ∧ Box K H a ∧ Q (.bl false) H
def rNeB (K : PySem.W.Frag) : R2 := fun x y H Q => ∃ a b, x = .ref a ∧ y = .str b ∧ Box K H a ∧ Q (.bl true) H
theorem op_eqB (hu : X.A.units + 64 < cLine) : OpR X (compareOp .Eq) (rEqB X.K) := by
  intro pins s σ H x y v u Q I rx ry h
  obtain ⟨a, b, rfl, rfl, hb, q⟩ := h
  have hu2 : X.A.units < cLine := by omega
  cases (show v = Value.ref a from rx)
  obtain ⟨t, rfl⟩ := (show ∃ t, u = Value.str b t from ry)
  have done : ∃ r : V, RelV r (.bool false) ∧ True := ⟨.bl false, rfl, trivial⟩
  rcases hb with ⟨xs, hb⟩ | ⟨xs, hb⟩ | ⟨ks, hb⟩
  · obtain ⟨us, r1, p1, _⟩ := I.list hb
    exact RcAt.list_str b t p1.isList hu2 X.prog X.w _ _ ⟨.bl false, H, I, rfl, q⟩
  · obtain ⟨us, r1, p1, _⟩ := I.tuple hb
    exact RcAt.tuple_str b t p1 hu2 X.prog X.w _ _ ⟨.bl false, H, I, rfl, q⟩
  · obtain ⟨_, ya, va, ra, da⟩ := (show ObjOk X.prog X.w H s.heap a (.dK ks) from I.hok a _ hb)
    exact rcp_dict_str da hu2 _ _ ⟨.bl false, H, I, rfl, q⟩
theorem op_neB (hu : X.A.units + 64 < cLine) : OpR X (compareOp .NotEq) (rNeB X.K) := by
  intro pins s σ H x y v u Q I rx ry h
  obtain ⟨a, b, rfl, rfl, hb, q⟩ := h
  have hu2 : X.A.units < cLine := by omega
  cases (show v = Value.ref a from rx)
  obtain ⟨t, rfl⟩ := (show ∃ t, u = Value.str b t from ry)
  rcases hb with ⟨xs, hb⟩ | ⟨xs, hb⟩ | ⟨ks, hb⟩
  · obtain ⟨us, r1, p1, _⟩ := I.list hb
    exact RcNeAt.list_str b t p1.isList hu2 X.prog X.w _ _ ⟨.bl true, H, I, rfl, q⟩
  · obtain ⟨us, r1, p1, _⟩ := I.tuple hb
    exact RcNeAt.tuple_str b t p1 hu2 X.prog X.w _ _ ⟨.bl true, H, I, rfl, q⟩
  · obtain ⟨_, ya, va, ra, da⟩ := (show ObjOk X.prog X.w H s.heap a (.dK ks) from I.hok a _ hb)
    exact rcn_dict_str da hu2 _ _ ⟨.bl true, H, I, rfl, q⟩
def rEqU (K : PySem.W.Frag) : R2 := fun x y H Q => ∃ a b xs, x = .ref a ∧ y = .ref b ∧ SqT K H a xs ∧ SqT K H b [] ∧ Q (.bl xs.isEmpty) H
def rNeU (K : PySem.W.Frag) : R2 := fun x y H Q => ∃ a b xs, x = .ref a ∧ y = .ref b ∧ SqT K H a xs ∧ SqT K H b [] ∧ Q (.bl (!xs.isEmpty)) H
theorem op_eqU (hu : X.A.units + 64 < cLine) : OpR X (compareOp .Eq) (rEqU X.K) := by
  intro pins s σ H x y v u Q I rx ry h
  obtain ⟨a, b, xs, rfl, rfl, ha, hb, q⟩ := h
  have hu2 : X.A.units < cLine := by omega
  cases (show v = Value.ref a from rx)
  cases (show u = Value.ref b from ry)
  obtain ⟨us, r1, p1, _⟩ := I.tuple ha
  obtain ⟨ws, r2, p2, _⟩ := I.tuple hb
  cases r2
  refine RcAt.tuples (e := fun _ => true) p1 p2 hu2 (fun j h1 h2 => absurd h2 (Nat.not_lt_zero j)) X.prog X.w _ _ ?_
  have e : ((List.range (min us.toArray.size (#[] : Array Value).size)).all (fun _ => true) && us.toArray.size == (#[] : Array Value).size) = xs.isEmpty := by
    cases r1 with
    | nil => rfl
    | cons => rfl
  rw [e]
  exact ⟨.bl _, H, I, rfl, q⟩
theorem op_neU (hu : X.A.units + 64 < cLine) : OpR X (compareOp .NotEq) (rNeU X.K) := by
  intro pins s σ H x y v u Q I rx ry h
  obtain ⟨a, b, xs, rfl, rfl, ha, hb, q⟩ := h
  have hu2 : X.A.units < cLine := by omega
  cases (show v = Value.ref a from rx)
  cases (show u = Value.ref b from ry)
  obtain ⟨us, r1, p1, _⟩ := I.tuple ha
  obtain ⟨ws, r2, p2, _⟩ := I.tuple hb
  cases r2
  refine RcNeAt.tuples (e := fun _ => true) p1 p2 hu2 (fun j h1 h2 => absurd h2 (Nat.not_lt_zero j)) X.prog X.w _ _ ?_
  have e : (!((List.range (min us.toArray.size (#[] : Array Value).size)).all (fun _ => true) && us.toArray.size == (#[] : Array Value).size)) = !xs.isEmpty := by
    cases r1 with
    | nil => rfl
    | cons => rfl
  rw [e]
  exact ⟨.bl _, H, I, rfl, q⟩
def rEqL0 (K : PySem.W.Frag) : R2 := fun x y H Q => ∃ a b xs, x = .ref a ∧ y = .ref b ∧ SqL K H a xs ∧ SqL K H b [] ∧ Q (.bl xs.isEmpty) H
theorem op_eqL0 (hu : X.A.units + 64 < cLine) : OpR X (compareOp .Eq) (rEqL0 X.K) := by
  intro pins s σ H x y v u Q I rx ry h
  obtain ⟨a, b, xs, rfl, rfl, ha, hb, q⟩ := h
  have roomy : X.A.units < cLine := Nat.lt_of_le_of_lt (Nat.le_add_right _ 64) hu
  obtain rfl : u = .ref b := ry
  obtain rfl : v = .ref a := rx
  obtain ⟨us, r1, p1, _⟩ := I.list ha
  obtain ⟨ws, r2, p2, _⟩ := I.list hb
  cases r2
  cases r1 with
  | nil =>
    refine RcAt.lists (e := fun _ => true) p1.isList p2.isList rfl roomy (fun j h1 h2 => absurd h2 (Nat.not_lt_zero j)) X.prog X.w _ _ ?_
    exact ⟨.bl true, H, I, rfl, q⟩
  | cons r3 r4 =>
    refine RcAt.lists_lengths p1.isList p2.isList (by simp) roomy X.prog X.w _ _ ?_
    exact ⟨.bl false, H, I, rfl, q⟩
end
section
variable {X : Cx} {μ : Mu} {Q : A → Mu → Prop}
theorem wO_eqNoneL {xs : List A} (hu : X.A.units + 64 < cLine) (q : Q (.bl xs.isEmpty) μ) : wO X (compareOp .Eq) (.lst xs) (.lst []) μ Q :=
  wO_of (op_eqL0 hu) fun M F H v w rl r1 r2 => by
    rw [rep_lst] at r1 r2
    obtain ⟨a, vs, rfl, h1, h2⟩ := r1
    obtain ⟨b, ws, rfl, h3, h4⟩ := r2
    simp only [RepL] at h4
    subst h4
    have e : vs.isEmpty = xs.isEmpty := by
      have := h2.len
      cases xs <;> cases vs <;> simp_all
    exact ⟨a, b, vs, rfl, rfl, .inl (.inl (rl.sub _ _ h1)), .inl (.inl (rl.sub _ _ h3)), .pure rl (rep_bl.mpr rfl) (by rw [e]; exact q)⟩
theorem rep_box {K : PySem.W.Frag} {M F H : Hp} {x : A} {v : V} (rl : Rel K μ M F H) (r : Rep K F x v) (h : (∃ xs, x = .tup xs) ∨ (∃ xs, x = .lst xs) ∨ ∃ p kvs, x = .loc p ∧ μ p = some (.dic kvs)) : ∃ a, v = .ref a ∧ Box K H a := by
  rcases h with ⟨xs, rfl⟩ | ⟨xs, rfl⟩ | ⟨p, kvs, rfl, hp⟩
  · rw [rep_tup] at r
    obtain ⟨a, vs, rfl, h1, _⟩ := r
    exact ⟨a, rfl, .inr (.inl ⟨vs, rl.sub.t h1⟩)⟩
  · rw [rep_lst] at r
    obtain ⟨a, vs, rfl, h1, _⟩ := r
    exact ⟨a, rfl, .inl ⟨vs, .inl (.inl (rl.sub _ _ h1))⟩⟩
  · rw [rep_loc] at r
    obtain ⟨_, o, h1, ws, rfl, _⟩ := rl.own p _ hp
    exact ⟨p, r, .inr (.inr ⟨ws, h1⟩)⟩
theorem wO_eqBox {x : A} {t : Str} (hu : X.A.units + 64 < cLine) (h : (∃ xs, x = .tup xs) ∨ (∃ xs, x = .lst xs) ∨ ∃ p kvs, x = .loc p ∧ μ p = some (.dic kvs)) (q : Q (.bl false) μ) : wO X (compareOp .Eq) x (.str t) μ Q :=
  wO_of (op_eqB hu) fun M F H v w rl r1 r2 => by
    obtain ⟨a, rfl, hb⟩ := rep_box rl r1 h
    exact ⟨a, t, rfl, rep_str.mp r2, hb, .pure rl (rep_bl.mpr rfl) q⟩
theorem wO_neBox {x : A} {t : Str} (hu : X.A.units + 64 < cLine) (h : (∃ xs, x = .tup xs) ∨ (∃ xs, x = .lst xs) ∨ ∃ p kvs, x = .loc p ∧ μ p = some (.dic kvs)) (q : Q (.bl true) μ) : wO X (compareOp .NotEq) x (.str t) μ Q :=
  wO_of (op_neB hu) fun M F H v w rl r1 r2 => by
    obtain ⟨a, rfl, hb⟩ := rep_box rl r1 h
    exact ⟨a, t, rfl, rep_str.mp r2, hb, .pure rl (rep_bl.mpr rfl) q⟩
theorem wO_eqNone {xs : List A} (hu : X.A.units + 64 < cLine) (q : Q (.bl xs.isEmpty) μ) : wO X (compareOp .Eq) (.tup xs) (.tup []) μ Q :=
  wO_of (op_eqU hu) fun M F H v w rl r1 r2 => by
    rw [rep_tup] at r1 r2
    obtain ⟨a, vs, rfl, h1, h2⟩ := r1
    obtain ⟨b, ws, rfl, h3, h4⟩ := r2
    simp only [RepL] at h4
    subst h4
    have e : vs.isEmpty = xs.isEmpty := by
      have := h2.len
      cases xs <;> cases vs <;> simp_all
    exact ⟨a, b, vs, rfl, rfl, rl.sub.t h1, rl.sub.t h3, .pure rl (rep_bl.mpr rfl) (by rw [e]; exact q)⟩
theorem wO_neNone {xs : List A} (hu : X.A.units + 64 < cLine) (q : Q (.bl (!xs.isEmpty)) μ) : wO X (compareOp .NotEq) (.tup xs) (.tup []) μ Q :=
  wO_of (op_neU hu) fun M F H v w rl r1 r2 => by
    rw [rep_tup] at r1 r2
    obtain ⟨a, vs, rfl, h1, h2⟩ := r1
    obtain ⟨b, ws, rfl, h3, h4⟩ := r2
    simp only [RepL] at h4
    subst h4
    have e : vs.isEmpty = xs.isEmpty := by
      have := h2.len
      cases xs <;> cases vs <;> simp_all
    exact ⟨a, b, vs, rfl, rfl, rl.sub.t h1, rl.sub.t h3, .pure rl (rep_bl.mpr rfl) (by rw [e]; exact q)⟩
end
end D

namespace D
open PySem PySem.Spec PyProof.Rows L2
def isNoneV : Value → Bool
  | .none => true
  | _ => false
def okN (K : PySem.W.Frag) (H : Hp) : V → Prop
  | .non => True
  | .int _ => True
  | .str _ => True
  | .bl _ => True
  | .ref a => ∃ items, SqT K H a items
  | _ => False
def isNonV : V → Bool
  | .non => true
  | _ => false
theorem any_none : ∀ {xs : List V} {us : List Value} {K : PySem.W.Frag} {H : Hp}, Vals xs us → (∀ v ∈ xs, okN K H v) → us.any isNoneV = xs.any isNonV
  | _, _, _, _, .nil, _ => rfl
  | x :: xs, u :: us, K, H, .cons r t, h => by
    rw [List.any_cons, List.any_cons, any_none t fun v hv => h v (List.mem_cons_of_mem _ hv)]
    have h0 := h x (List.mem_cons_self ..)
    congr 1
    cases x with
    | non => cases r; rfl
    | int i => obtain ⟨t, rfl⟩ := r; rfl
    | str i => obtain ⟨t, rfl⟩ := r; rfl
    | bl b => cases r; rfl
    | ref a => cases r; rfl
    | _ => exact h0.elim
theorem mem_none {X : Cx} {pins : List (Addr × Obj)} {σ : L2.St} {H : Hp} {s : Shared} (I : Inv X pins σ H s) {A : Around} (hu : A.units < cLine) : ∀ {xs : List V} {us : List Value}, Vals xs us → (∀ v ∈ xs, okN X.K H v) → ∀ u ∈ us, SeqAt.EqAt A s u .none (isNoneV u)
  | _, _, .nil, _ => fun u hu => by cases hu
  | x :: xs, u :: us, .cons r t, h => fun u' hu' => by
    rcases List.mem_cons.mp hu' with rfl | hu'
    · have h0 := h x (List.mem_cons_self ..)
      cases x with
      | non => cases r; exact SeqAt.EqAt.same _
      | int i => obtain ⟨t, rfl⟩ := r; exact SeqAt.EqAt.int_none _ _
      | str i => obtain ⟨t, rfl⟩ := r; exact SeqAt.EqAt.str_none _ _
      | bl b => cases r; exact SeqAt.EqAt.bool_none _
      | ref a =>
        cases r
        obtain ⟨items, hq⟩ := h0
        obtain ⟨its, _, pl, _⟩ := I.tuple hq
        exact SeqAt.EqAt.tuple_none pl hu
      | _ => exact h0.elim
    · exact mem_none I hu t (fun v hv => h v (List.mem_cons_of_mem _ hv)) u' hu'
theorem op_noneIn {X : Cx} (hu : X.A.in1.units < cLine) : OpR X (compareOp .In) (fun x y H Q => ∃ p xs, x = .non ∧ y = .ref p ∧ SqL X.K H p xs ∧ (∀ v ∈ xs, okN X.K H v) ∧ Q (.bl (xs.any isNonV)) H) := by
  intro pins s σ H x y v u Q I rx ry h
  obtain ⟨p, xs, rfl, rfl, hq, fs, q⟩ := h
  cases rx
  cases ry
  obtain ⟨its, r, pl, hz⟩ := I.list hq
  refine SeqAt.in_listAt isNoneV pl.isList (fun w hw => mem_none I hu r fs w (by simpa using hw)) ⟨.bl _, H, I, rfl, ?_⟩
  rw [show its.toArray.any isNoneV = its.any isNoneV by simp, any_none r fs]
  exact q
def okA : A → Bool
  | .non => true
  | .int _ => true
  | .str _ => true
  | .bl _ => true
  | .tup _ => true
  | _ => false
theorem okA_rep {K : PySem.W.Frag} {M F H : Hp} {μ : Mu} (rl : Rel K μ M F H) : ∀ {xs : List A} {vs : List V}, RepL K F xs vs → xs.all okA = true → (∀ v ∈ vs, okN K H v) ∧ vs.any isNonV = xs.any isNon
  | [], _, h, _ => by simp only [RepL] at h; subst h; exact ⟨(fun _ z => nomatch z), rfl⟩
  | x :: xs, _, h, f => by
    simp only [RepL] at h
    obtain ⟨v, r, rfl, h1, h2⟩ := h
    rw [List.all_cons, Bool.and_eq_true] at f
    obtain ⟨g1, g2⟩ := okA_rep rl h2 f.2
    have key : okN K H v ∧ isNonV v = isNon x := by
      cases x with
      | non => rw [rep_non] at h1; subst h1; exact ⟨trivial, rfl⟩
      | int i => rw [rep_int] at h1; subst h1; exact ⟨trivial, rfl⟩
      | str i => rw [rep_str] at h1; subst h1; exact ⟨trivial, rfl⟩
      | bl i => rw [rep_bl] at h1; subst h1; exact ⟨trivial, rfl⟩
      | tup ys => rw [rep_tup] at h1; obtain ⟨a, ws, rfl, k1, k2⟩ := h1; exact ⟨⟨ws, rl.sub.t k1⟩, rfl⟩
      | ty _ => simp [okA] at f
      | loc _ => simp [okA] at f
      | lst _ => simp [okA] at f
      | fls _ => simp [okA] at f
    refine ⟨fun w hw => ?_, by rw [List.any_cons, List.any_cons, key.2, g2]⟩
    rcases List.mem_cons.mp hw with rfl | hw
    · exact key.1
    · exact g1 w hw
theorem wO_noneIn {X : Cx} {μ : Mu} {Q : A → Mu → Prop} {y : A} {xs : List A} (hu : X.A.in1.units < cLine) (hy : IsL μ y xs) (hs : xs.all okA = true) (q : Q (.bl (xs.any isNon)) μ) : wO X (compareOp .In) .non y μ Q :=
  wO_of (op_noneIn hu) fun M F H v w rl r1 r2 => by
    obtain ⟨p, vs, e, h1, h2⟩ := hy.rep rl r2
    obtain ⟨g1, g2⟩ := okA_rep rl h2 hs
    exact ⟨p, vs, rep_non.mp r1, e, .inl (.inl h1), g1, .pure rl (rep_bl.mpr (by rw [g2])) q⟩
theorem in1_lt {X : Cx} {k : Nat} (ar : Ar X k) : X.A.in1.units < cLine := by
  have h := ar.u64
  have e : X.A.in1.units = X.A.units + 1 := rfl
  omega
theorem wI_kd {X : Cx} {μ : Mu} {Q : A → Mu → Prop} {p : Addr} {kvs : List (Str × Int)} {z : Str} {i : Int} (Dk : KDi X.K X.w p kvs) (h : valI kvs z = some i) (q : Q (.int i) μ) : wI X (.loc p) (.str z) μ Q := fun M F H v w rl r1 r2 => rd_ixr ix_kdict (by
  rw [rep_loc] at r1; rw [rep_str] at r2
  subst r1 r2
  obtain ⟨es, n, k1, k2, k3, k4⟩ := Dk.ex
  rcases ent_find z k4 with ⟨h1, h2⟩ | ⟨d, j, t, h1, h2, h3⟩
  · rw [h1] at h; cases h
  · rw [h1] at h; cases h
    refine ⟨p, z, .int i, rfl, rfl, ⟨es, n, d.val, k1, k2, ?_, ?_⟩, .pure rl (rep_int.mpr rfl) q⟩
    · unfold PySem.W.nsIn
      rw [k1]
      simp only [PySem.W.isStr_of]
      rw [h2]
    · rw [h3]; exact ⟨_, rfl⟩)
end D

namespace D
open PySem PySem.Spec PyProof.Rows L2
section
variable {P : Program} {w : World} {B : Around} {E : Value → Shared → Prop} {s : Shared}
set_option maxHeartbeats 8000000 in
theorem set_of_list {l : Addr} {its : Array Value} {xs : List Str} {Q : Value → Shared → Prop} (hh : B.handled = none) (hl : s.heap.IsList l its) (hx : PyProof.Rows.StrsAre its.toList xs) (hb : xs.length + 1 < scanBound)
    (q : ∀ (h' : Heap) (tk : Nat), HasT P w h' s.heap.objs.size xs → (∀ b o, b < s.heap.objs.size → s.heap.get? b = some o → h'.get? b = some o) → Q (.ref s.heap.objs.size) { s with heap := h', toks := tk }) : wpAny (model P w) B (call (.type "set") [.ref l]) Q E s := by
  obtain ⟨mc, mt, hmro⟩ := PySem.F.called_set.mro
  have g1 := PySem.F.called_set.made; have g2 := PySem.F.called_set.sub; have g3 := PySem.F.called_set.notType; have g4 := PySem.F.called_set.canCreate; have g5 := PySem.F.typeCall_set_1 (.ref l)
  refine (wpAny_call (codeAny_of_tree (show wpAny _ _ (callAny (.type "set") _) _ _ _ from wpAny_pure ⟨Code.quiet_builtin _ (by decide +kernel), codeAny_builtin PySem.F.entry_type_call ?_⟩)))
  rw [Around.under_plain (weight_type_call_type "set" [.ref l] []) rfl]
  repeat (any_goals (first | wp_step | assumption))
  refine codeAny_mono (code_set_new_1 (.ref l) (E := E) (Q₁ := fun ob s1 => ∃ led : Bool, ob = .ref s.heap.objs.size ∧ s1 = { s with heap := s.heap.push (fresh0 led) }) fun led => ⟨led, rfl, rfl⟩) fun r s1 hr => ?_
  match r, hr with
  | .error e, hr => exact hr
  | .ok .next, hr => exact hr.elim
  | .ok .brk, hr => exact hr.elim
  | .ok .cont, hr => exact hr.elim
  | .ok (.ret ob), hr =>
    obtain ⟨led, rfl, rfl⟩ := hr
    have hS : (s.heap.push (fresh0 led)).get? s.heap.objs.size = some (fresh0 led) := Heap.get?_push_size _ rfl
    have hT : Shared.TypeIs { s with heap := s.heap.push (fresh0 led) } (.ref s.heap.objs.size) "set" := ⟨_, hS, rfl⟩
    have k1 := PySem.F.called_set.init.lookup; have k2 := PySem.F.called_set.init.bind (.ref s.heap.objs.size)
    repeat (any_goals (first | wp_step | assumption))
    refine codeAny_mono (codeAny_call_builtin (R := wants (fun r s2 => r = .none ∧ ∃ h' tk, s2 = { s with heap := h', toks := tk } ∧ HasT P w h' s.heap.objs.size xs ∧ (∀ b o, b < s.heap.objs.size → s.heap.get? b = some o → h'.get? b = some o)) E) PySem.F.called_set.init.plain PySem.F.entry_set_init (check_set_init_1 hT ?_)) fun r2 s2 hr2 => ?_
    · obtain ⟨⟨_, od, _, osl⟩, hol, rfl, nl, rfl⟩ := hl
      have hol2 : (s.heap.push (fresh0 led)).get? l = some { cls := .type "list", dict := od, data := .seq its nl, slots := osl } := Heap.get?_push_of_some _ hol
      have n1 := PySem.F.sub_list_set; have n2 := PySem.F.sub_list_frozenset; have n3 : (Value.type "list" == Value.type "dict") = false := by decide
      have isT : (s.heap.push (fresh0 led)).IsList l its := ⟨_, hol2, rfl, nl, rfl⟩
      unfold Builtin.«set.__init__» noKeywords Builtin.Frozenset.updateFrom
      generalize hpi : pyIter = PI
      wp_walk
      subst hpi
      refine wpAny_pyIter_list isT (wpAny_bind (wpAny_runValue ?_))
      have lS : l < s.heap.objs.size := Heap.lt_size hol
      have hsz : its.size = xs.length := by rw [← StrsAre.len_eq hx, Array.length_toList]
      have neI : l ≠ (s.heap.push (fresh0 led)).objs.size := by rw [Heap.size_push]; exact Nat.ne_of_lt (Nat.lt_succ_of_lt lS)
      have off : s.heap.objs.size ∉ [(s.heap.push (fresh0 led)).objs.size, l] := by rw [Heap.size_push]; simp only [List.mem_cons, List.not_mem_nil, or_false, not_or]; exact ⟨Nat.ne_of_lt (Nat.lt_succ_self _), Nat.ne_of_gt lS⟩
      refine set_turns ((Walks.list (by simp [hh]) _ l neI its).toS) s.heap.objs.size off xs hsz.symm (by omega) (fun i v hv => SS.strs_at hx i v (by rw [Array.getElem?_toList]; exact hv)) its.size 0 _ (by omega) ⟨⟨_, Heap.get?_push_size _ rfl, rfl, rfl⟩, isT.push _⟩ ?_ fun s3 mv hS3 => ?_
      · have hg : ((s.heap.push (fresh0 led)).push { cls := .type "list_iterator", data := .fields #[.ref l, .int 0 0] }).get? s.heap.objs.size = some (fresh0 led) := Heap.get?_push_of_some _ hS
        exact PyProof.Rows.SetOf_congr ((PyProof.Rows.setObjOf_fresh (knd := PySem.strKind P w) led).setOf hg (by unfold scanBound; omega)) (fun _ => by simp) rfl
      · obtain ⟨h3, gn3, dr3, tk3, os3⟩ := s3
        obtain rfl : gn3 = s.gens := mv.gens
        obtain rfl : dr3 = s.drawn := mv.drawn
        obtain rfl : os3 = s.os := mv.os
        refine (show wpAny _ _ _ _ _ _ from wpAny_pure (show wpAny _ _ (ret Value.none) _ _ _ from wpAny_pure ⟨rfl, h3, tk3, rfl, hS3, fun b o lb e => ?_⟩))
        refine mv.heap b o ?_ (Heap.get?_push_of_some _ (Heap.get?_push_of_some _ e))
        rw [Heap.size_push]; simp only [List.mem_cons, List.not_mem_nil, or_false, not_or]; exact ⟨Nat.ne_of_lt lb, Nat.ne_of_lt (Nat.lt_succ_of_lt lb)⟩
    · match r2, hr2 with
      | .error e, hr2 => exact hr2
      | .ok .next, hr2 => exact hr2.elim
      | .ok .brk, hr2 => exact hr2.elim
      | .ok .cont, hr2 => exact hr2.elim
      | .ok (.ret _), hr2 =>
        obtain ⟨rfl, h', tk, rfl, hS', hk⟩ := hr2
        repeat (any_goals (first | wp_step | assumption))
        exact q _ _ hS' hk
end
section
variable {B : Bs} {X : Cx} {Γ : G} {μ : Mu} {Q : A → Mu → Prop} {e : Expr} {p p2 q0 pos : Pos}
theorem wE_lenSetL (hm : X.mg "len" = none) (hm2 : X.mg "set" = none) (h : wE B X e Γ μ fun x μ1 => ∃ xs : List Str, x = .lst (xs.map A.str) ∧ xs.length ≤ 1000 ∧ Q (.int (unl xs).length) μ1) (hg : Gl X "len" := by rfl) (hg2 : Gl X "set" := by rfl) (hc : X.calm = true := by rfl)
    (na : starEach [e] X.env = (false, eval e X.env) :: starEach [] X.env := by rfl) : wE B X (.Call (.Name "len" p) [.Call (.Name "set" p2) [e] [] q0] [] pos) Γ μ Q := by
  intro σ M F H bo rs rl
  refine ⟨fun pins s I => ?_⟩
  refine Call_ (ld_blt I hg hm boot_len (PyProof.Rows.callWith_builtin1 (PyProof.Rows.args_cons ?_ rfl) rfl rfl))
  refine Call_ (ld_blt I hg2 hm2 boot_set (PyProof.Rows.callWith_type1 (PyProof.Rows.args_cons (thn ((h σ M F H bo rs rl).o pins s I) fun v s1 got => PyProof.Rows.args_nil ?_) na) na rfl))
  obtain ⟨u, H1, I1, ru, x, F1, μ1, ex, r1, p1, xs, rfl, hx, q1⟩ := got
  rw [rep_lst] at p1
  obtain ⟨a, vs, rfl, h1, h2⟩ := p1
  rw [repL_strs h2] at h1
  cases ru
  obtain ⟨its, rv, pl, hz⟩ := I1.list (.inl (.inl (r1.sub _ _ h1)))
  refine set_of_list (I1.ok.hd hc) pl.isList (by simpa using L2.strsAre_of rv) (by unfold scanBound; omega) fun h' tk hS hk => PyProof.Rows.args_nil ?_
  obtain ⟨o, es, ep, t, ho, hex, hd, _, _, _, hf, hn⟩ := hS
  have I2 : Inv X pins σ H1 { s1 with heap := h', toks := tk } := I1.kept fun b o e => hk b o (Heap.lt_size e) e
  have hu := unl_le _ xs rfl
  exact call_len_set ho hex hd hf (by rw [hn]; omega) ⟨.int (unl xs).length, H1, I2.tok _, ⟨_, by rw [hn]⟩, _, F1, μ1, ex, r1, rep_int.mpr rfl, q1⟩
end
end D

namespace D
open PySem PySem.Spec PyProof.Rows L2
theorem op_mulS {X : Cx} : OpR X (binaryOp .Mult) (fun x y H Q => ∃ i n, x = .str i ∧ y = .int n ∧ PySem.MulOk i n ∧ Q (.str (Txt.mul i n)) H) := by
  intro pins s σ H x y v u Q I rx ry h
  obtain ⟨i, n, rfl, rfl, hz, q⟩ := h
  obtain ⟨t, rfl⟩ := rx
  obtain ⟨t', rfl⟩ := ry
  exact PySem.SB.mul hz (fun t' tk => ⟨.str (Txt.mul i n), H, I.tok _, ⟨_, rfl⟩, q⟩)
theorem wO_mulS {X : Cx} {μ : Mu} {Q : A → Mu → Prop} {x : Str} {n : Int} (hz : PySem.MulOk x n) (q : Q (.str (Txt.mul x n)) μ) : wO X (binaryOp .Mult) (.str x) (.int n) μ Q :=
  wO_of op_mulS fun M F H v w rl r1 r2 => ⟨x, n, rep_str.mp r1, rep_int.mp r2, hz, .pure rl (rep_str.mpr rfl) q⟩
end D

namespace D
open PySem PySem.Spec PyProof.Rows L2
section
variable {X : Cx} {s : Shared} {pins : List (Addr × Obj)} {σ : L2.St} {H : Hp}
theorem inv_adopt {a : Addr} {oe : Obj} {vs : Array Value} {cls : Value} {d : Option Addr} (I : Inv X pins σ H s) (ha : s.heap.get? a = some oe) (hz : oe.cls = cls ∧ oe.dict = d) (hd : oe.data = .fields vs) (na : H a = none) (n0 : X.s_0.heap.get? a = none)
    (nL : a ≠ X.env.locals) (np : ∀ p ∈ X.pn ++ pins, p.1 ≠ a) : Inv X pins σ (upd H a (XO a cls d)) s := by
  have ne : ∀ {b : Addr} {o : HO}, H b = some o → b ≠ a := fun {b o} e z => by rw [z, na] at e; cases e
  refine ⟨I.ok, I.os, I.bare, ⟨I.base.keep, I.base.slot, fun b o e n hx => ?_, I.base.there, fun b xs e => ?_, fun b o u e => ?_, fun b ps e => ?_⟩, I.loc, I.cell, ?_, fun x c e => ?_, fun p hp => ?_, fun b o e => ?_, I.len⟩
  · have hb : b ≠ a := fun z => by rw [z, n0] at e; cases e
    rw [upd_ne hb]; exact I.base.free b o e n hx
  · have q := I.base.tups b xs e
    rw [upd_ne (ne q)]; exact q
  · have q := I.base.frzs b o u e
    rw [upd_ne (ne q)]; exact q
  · obtain ⟨more, q⟩ := I.base.tbls b ps e
    exact ⟨more, by rw [upd_ne (ne q)]; exact q⟩
  · rw [upd_ne (Ne.symm nL)]; exact I.free
  · have hc : c ≠ a := fun z => by
      obtain ⟨v, o, h1, h2⟩ := I.cell x c e
      rw [z, ha] at h1; cases h1
      rw [hd] at h2; cases h2
    rw [upd_ne hc]; exact I.freeC x c e
  · obtain ⟨h1, h2, h3⟩ := I.pin p hp
    exact ⟨h1, by rw [upd_ne (np p hp)]; exact h2, h3⟩
  · by_cases hb : b = a
    · subst hb
      rw [upd_same] at e; cases e
      exact ⟨⟨oe, vs, ha, hz, hd⟩, ⟨_, ha⟩, fun h1 h2 ⟨oe, vs, g1, g2, g3⟩ k => ⟨oe, vs, k _ g1, g2, g3⟩⟩
    · rw [upd_ne hb] at e
      exact (I.hok b o e).stay (fun _ _ _ q => q) (fun _ q => by rw [upd_ne (ne q)]; exact q) fun _ _ q => by rw [upd_ne (ne q)]; exact q
end
def wKeep (K : PySem.W.Frag) (c : Value) (i : Nat) (ts : Addr → Value → Option Addr → TS) (Wout : WX) (D : Ends) : WX := fun cls d σ H =>
  ∃ b, PySem.W.exmOne K cls c = some b ∧ (b = true → ∀ a, H a = none → ts a cls d { nx := fun σ' H' => H' a = none → D.nx (σ'.set i none) (upd H' a (XO a cls d)), rt := fun v H' => H' a = none → D.rt v (upd H' a (XO a cls d)), bk := fun σ' H' => H' a = none → D.bk (σ'.set i none) (upd H' a (XO a cls d)), ct := fun σ' H' => H' a = none → D.ct (σ'.set i none) (upd H' a (XO a cls d)) } (σ.set i (some (.ref a))) H) ∧
    (b = false → Wout cls d σ H)
theorem fields_off {B h : Heap} {l : List Env} {a : Addr} {o : Obj} {vs : Array Value} (ff : h.FunFrames B l) (e : h.get? a = some o) (dt : o.data = .fields vs) : a ∉ frs l := by
  intro m
  obtain ⟨_, u, eu, no⟩ := ff.mem m
  have same : o = u := Option.some.inj (e.symm.trans eu)
  exact no vs (same ▸ dt)
structure Seen (X : Cx) (pins : List (Addr × Obj)) (σ : L2.St) (H : Hp) (sI : Shared) (B : Heap) (a : Addr) : Prop where
  inv : Inv X pins σ H sI
  low : ∀ b o, sI.heap.get? b = some o → b ∉ frs X.stack → B.get? b = some o
  new : B.get? a = none
  hid : H a = none
  off : a ∉ frs X.stack
namespace Seen
variable {X : Cx} {pins : List (Addr × Obj)} {σ : L2.St} {H : Hp} {sI : Shared} {B : Heap} {a : Addr}
theorem void (c : Seen X pins σ H sI B a) {o : Obj} : sI.heap.get? a ≠ some o := fun e => by
  have := c.low a o e c.off
  rw [c.new] at this; cases this
theorem pins_ne (c : Seen X pins σ H sI B a) : ∀ p ∈ X.pn ++ pins, p.1 ≠ a := fun p hp e => c.void (e ▸ (c.inv.pin p hp).1)
theorem before (c : Seen X pins σ H sI B a) (hex : X.ex = []) : X.s_0.heap.get? a = none := by
  refine Option.eq_none_iff_forall_ne_some.mpr fun o e => ?_
  obtain ⟨u, q⟩ := c.inv.base.there a o e (by rw [hex]; exact List.not_mem_nil)
  exact c.void q
theorem ne_locals (c : Seen X pins σ H sI B a) (hs : X.stack = X.env :: X.outer) (hf : X.env.frame = some X.env.locals) : a ≠ X.env.locals := fun e =>
  c.off (by rw [hs, e]; exact List.mem_filterMap.mpr ⟨_, .head _, hf⟩)
theorem not_fs (c : Seen X pins σ H sI B a) (hs : X.stack = X.env :: X.outer) : a ∉ X.fs := fun m =>
  c.off (by rw [hs]; exact (List.mem_filterMap.mp m).elim fun e q => List.mem_filterMap.mpr ⟨e, .tail _ q.1, q.2⟩)
theorem now (c : Seen X pins σ H sI B a) {cls : Value} {d : Option Addr} {l : List Env} {s : Shared} (fl : HandSPX.FlyingZ B l a (Zc cls d) s.heap) (up : sI.heap.UpToSlots s.heap) (os : s.os = sI.os) (ag : AllBare s.gens) :
    Inv X pins σ H s ∧ ∃ oe vs, s.heap.get? a = some oe ∧ Zc cls d oe ∧ oe.data = .fields vs :=
  ⟨c.inv.landed c.low fl.1 up os ag, fl.there⟩
end Seen
section
variable {X : Cx} {pins : List (Addr × Obj)} {σ : L2.St} {H : Hp} {sI s : Shared} {B : Heap} {a : Addr} {cls : Value} {d : Option Addr} {D : Ends} {Wout : WX}
theorem on_out (c : Seen X pins σ H sI B a) (hs : X.stack = X.env :: X.outer) (hf : X.env.frame = some X.env.locals) (tk : Takes X Wout) (fl : HandSPX.FlyingZ B (X.env :: X.outer) a (Zc cls d) s.heap) (up : sI.heap.UpToSlots s.heap) (os : s.os = sI.os)
    (ag : AllBare s.gens) (w : Wout cls d σ H) {Q : Flow → Shared → Prop} : wpAny (model X.prog X.w) X.A (handleBy (.ref a) X.env []) Q X.xe s := by
  have fly : wpAny (model X.prog X.w) X.A (setFlight (.ref a) X.env.frame) (fun _ s4 => wpAny (model X.prog X.w) X.A (throw (.ref a) : Sem Flow) Q X.xe s4) X.xe s := by
    rw [hf]
    refine HandSPX.setFlight_upZ fl fun h4 held up4 => wpAny_throw (tk _ _ ⟨a, B, sI, pins, σ, H, cls, d, rfl, c.inv, c.low, up.trans up4, ?_, c.hid, os, ag, w⟩)
    rw [hs]; exact Or.inr (Or.inr held)
  obtain ⟨_, _, _, oe, vs, T, _, _, e1, _, e3, e4, _⟩ := fl
  refine wpAny_handleBy_nil ?_
  unfold PySem.passOn
  refine wpAny_bind (wpAny_field e1 e3 e4 ?_)
  rw [if_neg (by simp)]
  first | exact wpAny_bind fly | exact wpAny_bind (wpAny_pure (wpAny_bind fly))
theorem on_test {x : Str} {np pos : Pos} {cl : Value} {pn : List (Addr × Obj)} {b : Bool} {oe : Obj} {R : Result → Shared → Prop} (S : Inv (X.suite a pn) [] σ H s) (hc : Names X x cl) (e : s.heap.get? a = some oe) (z : oe.cls = cls) (hb : PySem.W.exmOne X.K cls cl = some b)
    (q : R (.ok (if b then .brk else .next)) s) : codeAny (model X.prog X.w) (X.A.mark (some (.ref a))) (.handlers (.ref a) [.ExceptHandler (some (.Name x np)) none [] pos] X.env) R s := by
  have looks : PySem.W.Looks (model X.prog X.w) s.heap (typeOf (.ref a)) cls := fun _ _ _ t keeps ok => wpAny_typeOf_ref (keeps _ _ e) (z ▸ ok)
  have match_ := (PySem.W.exm_one (M := model X.prog X.w) S.kIn looks hb).here (A := X.A.mark (some (.ref a))) (E := notedBy (model X.prog X.w) (X.A.mark (some (.ref a))) X.env fun x s₂ => R (.error x) s₂) (Q := fun b s₂ => R (.ok (if b then .brk else .next)) s₂) q
  refine codeAny_handlers_test ?_
  obtain ⟨g, nd, top⟩ := hc
  rcases top with top | ⟨none, boot, nn⟩
  · exact ld_glob (X := X.suite a pn) S g top match_ nd
  · exact ld_blt (X := X.suite a pn) S g none boot match_ nn nd
abbrev keptEnds (D : Ends) (i : Nat) (a : Addr) (cls : Value) (d : Option Addr) : Ends :=
  { nx := fun σ' H' => H' a = none → D.nx (σ'.set i none) (upd H' a (XO a cls d)), rt := fun v H' => H' a = none → D.rt v (upd H' a (XO a cls d)), bk := fun σ' H' => H' a = none → D.bk (σ'.set i none) (upd H' a (XO a cls d)), ct := fun σ' H' => H' a = none → D.ct (σ'.set i none) (upd H' a (XO a cls d)) }
theorem on_end {i : Nat} {n : Str} {pos : Pos} {oe : Obj} {vs : Array Value} {f : Flow} {E : Value → Shared → Prop} (ok : X.Ok) (hN : X.N.Nodup) (hi : X.N[i]? = some n) (hln : X.env.kindOf n = some .local) (z : Zc cls d oe) (dt : oe.data = .fields vs) (n0 : X.s_0.heap.get? a = none)
    (nL : a ≠ X.env.locals) (np : ∀ p ∈ X.pn ++ pins, p.1 ≠ a) (r : SP (X.suite a ((a, oe) :: (X.pn ++ pins))) [] (keptEnds D i a cls d) f s) :
    wpAny (model X.prog X.w) X.A (do bindName X.env n .none; unbindBehindTheSuite X.env n pos) (fun _ s7 => SP X pins D f s7) E s := by
  have gone : ∀ {σ6 : L2.St} {H6 : Hp} {Q : Shared → Prop}, Inv (X.suite a ((a, oe) :: (X.pn ++ pins))) [] σ6 H6 s → (∀ s7, H6 a = none ∧ Inv X pins (σ6.set i none) (upd H6 a (XO a cls d)) s7 → Q s7) →
      wpAny (model X.prog X.w) X.A (do bindName X.env n .none; unbindBehindTheSuite X.env n pos) (fun _ s7 => Q s7) E s := by
    intro σ6 H6 Q J q
    refine gone_ok (X := X.suite a ((a, oe) :: (X.pn ++ pins))) J hN hi hln fun s7 J7 => q s7 ?_
    have known := J7.pin (a, oe) (by simp)
    exact ⟨known.2.1, inv_adopt (J7.unsuite ok) known.1 z dt known.2.1 n0 nL np⟩
  cases f
  case ret u => exact r.elim fun v r => r.elim fun σ6 r => r.elim fun H6 r => gone r.1 fun s7 w => ⟨v, _, _, w.2, r.2.1, r.2.2 w.1⟩
  all_goals exact r.elim fun σ6 r => r.elim fun H6 r => gone r.1 fun s7 w => ⟨_, _, w.2, r.2 w.1⟩
theorem sp_home {pn : List (Addr × Obj)} {xe : Value → Shared → Prop} {f : Flow} (ok : X.Ok) (r : SP (X.tr (X.pn ++ pins) xe) pn D f s) : SP X pins D f s := by
  cases f
  case ret u => exact r.imp fun _ r => r.imp fun _ r => r.imp fun _ r => ⟨r.1.ofTry ok, r.2⟩
  all_goals exact r.imp fun _ r => r.imp fun _ r => ⟨r.1.ofTry ok, r.2⟩
def onCatch (X : Cx) (pins : List (Addr × Obj)) (D : Ends) (cs : List ExceptHandler) : Value → Shared → Prop := fun e s₁ =>
  wpAny (model X.prog X.w) X.A (noteFrame e X.env) (fun _ s₂ => wpAny (model X.prog X.w) X.A (setFlight e none) (fun _ s₃ => wpAny (model X.prog X.w) X.A (handleBy e X.env cs) (SP X pins D) X.xe s₃) X.xe s₂) X.xe s₁
end
def TryP (X : Cx) (ss : List Stmt) (tb : WX → TS) : Prop :=
  ∀ W pn xe, Takes (X.tr pn xe) W → PassesOwn (model X.prog X.w) X.A X.env xe →
    PSs (X.tr pn xe) ss (tb W)
def SuiteP (X : Cx) (ss : List Stmt) (ts : Addr → Value → Option Addr → TS) : Prop :=
  ∀ a oe cls d pn, Zc cls d oe → (∃ vs, oe.data = .fields vs) →
    PSs (X.suite a ((a, oe) :: pn)) ss (ts a cls d)
section
variable {X : Cx} {i : Nat} {x n : Str} {c : Value} {b₀ : Stmt} {body suite : List Stmt} {np pos pos' : Pos} {Wout : WX} {tb : WX → TS} {ts : Addr → Value → Option Addr → TS}
theorem keep_takes {pins : List (Addr × Obj)} {D : Ends} (ok : X.Ok) (hs : X.stack = X.env :: X.outer) (hf : X.env.frame = some X.env.locals) (hex : X.ex = []) (hN : X.N.Nodup) (hi : X.N[i]? = some n) (hln : X.env.kindOf n = some .local) (hc : Names X x c) (tk : Takes X Wout)
    (hsu : SuiteP X (b₀ :: suite) ts) :
    Takes (X.tr (X.pn ++ pins) (onCatch X pins D [.ExceptHandler (some (.Name x np)) (some n) (b₀ :: suite) pos'])) (wKeep X.K c i ts Wout D) := by
  rintro u s' ⟨a, B, sI, pins', σ, H, cls, d, rfl, J, low, up, sky, hid, os, ag, b, hb, yes, no⟩
  have frames : X.A.frames = some (X.env :: X.outer) := ok.frames.trans (congrArg some hs)
  have new : B.get? a = none := sky.elim (fun q => q.2.1) fun q => q.elim (fun q => q.2.1) fun q => q.2.1
  refine Sky.land Zc.steady frames hf (show Sky B (X.env :: X.outer) a (Zc cls d) X.env.locals s'.heap from hs ▸ sky) fun h fl up1 => ?_
  obtain ⟨oe, vs, e1, e2, e3⟩ := fl.there
  have C : Seen X pins σ H sI B a := ⟨J.ofTry ok, low, new, hid, by rw [hs]; exact fields_off fl.2.2.1 e1 e3⟩
  have nL := C.ne_locals hs hf
  have S := (C.now (s := { s' with heap := h }) fl (up.trans up1) os ag).1.suite e1 e3 hid nL (C.not_fs hs)
  refine wpAny_handleBy_cons (on_test S hc e1 e2.1 hb ?_) (fun z => nomatch z)
  match b, yes, no with
  | false, _, no => exact on_out (s := { s' with heap := h }) C hs hf tk fl (up.trans up1) os ag (no rfl)
  | true, yes, _ =>
    refine codeAny_handlers_suite_as (HandSPX.lands_againZ fl fun h4 fl4 up4 => ?_)
    obtain ⟨I4, oe4, vs4, g1, g2, g3⟩ := C.now (s := { s' with heap := h4 }) fl4 ((up.trans up1).trans up4) os ag
    refine store_ok (X := X.suite a ((a, oe4) :: (X.pn ++ pins))) (v := .ref a) (I4.suite g1 g3 hid nL (C.not_fs hs)) hN hi (.inl hln) rfl (fun s5 S5 => ?_) (.inr hln)
    exact wpAny_mono ((hsu a oe4 cls d (X.pn ++ pins) g2 ⟨vs4, g3⟩).run [] s5 _ H (keptEnds D i a cls d) S5 (yes rfl a hid)) (fun f s6 r => on_end ok hN hi hln g2 g3 (C.before hex) nL C.pins_ne r) (fun _ _ z => z.elim)
theorem ps_try_keep (hs : X.stack = X.env :: X.outer) (hf : X.env.frame = some X.env.locals) (hex : X.ex = []) (hN : X.N.Nodup) (hi : X.N[i]? = some n) (hln : X.env.kindOf n = some .local) (hc : Names X x c) (tk : Takes X Wout)
    (hb : TryP X body tb)
    (hsu : SuiteP X (b₀ :: suite) ts) :
    PS X (.Try body [.ExceptHandler (some (.Name x np)) (some n) (b₀ :: suite) pos'] [] [] pos) (fun D σ H => tb (wKeep X.K c i ts Wout D) D σ H) := by
  refine ⟨fun pins s σ H D I h => wpAny_Try_except ?_⟩
  have run := (hb _ (X.pn ++ pins) _ (keep_takes (pins := pins) (D := D) (np := np) (pos' := pos') I.ok hs hf hex hN hi hln hc tk hsu) PassesOwn.looking).run [] s σ H D (I.toTry _) h
  refine wpAny_mono run (fun f s1 r => ?_) (fun _ _ r => r)
  have r := sp_home I.ok r
  cases f <;> first | exact r | exact wpAny_execs_nil r
end
end D

namespace D
open PySem PySem.Spec PyProof.Rows L2
theorem Rel.less {K : PySem.W.Frag} {μ : Mu} {M M' F H : Hp} (h : Rel K μ M' F H) (e : Ex M M') : Rel K μ M F H := ⟨h.sub, h.own, fun p o q => h.frm p o (e p o q)⟩
abbrev XW := Value → Option Addr → G → Mu → Prop
def wxOf (B : Bs) (K : PySem.W.Frag) (E1 : XW) : WX := fun cls d σ H => ∃ Γ M F μ, B.ok M F ∧ RelS K Γ F σ ∧ Rel K μ M F H ∧ E1 cls d Γ μ
def Bs.le (B B' : Bs) : Prop := B.ok B'.M B'.F
theorem Bs.le.ok {B B' : Bs} {M F : Hp} (h : B.le B') (k : B'.ok M F) : B.ok M F := ⟨h.m.trans k.m, h.f.trans k.f⟩
theorem Bs.le.trans {B B1 B2 : Bs} (h : B.le B1) (k : B1.le B2) : B.le B2 := h.ok k
theorem Bs.le.refl (B : Bs) : B.le B := ⟨.refl _, .refl _⟩
structure Fly (B : Bs) (X : Cx) (E1 : XW) : Prop where
  o : Takes X (wxOf B X.K E1)
theorem Fly.imp {B : Bs} {X : Cx} {E1 E2 : XW} (t : Fly B X E1) (h : ∀ c d Γ μ, E2 c d Γ μ → E1 c d Γ μ) : Fly B X E2 := ⟨t.o.imp fun c d σ H ⟨Γ, M, F, μ, a, b, e, q⟩ => ⟨Γ, M, F, μ, a, b, e, h _ _ _ _ q⟩⟩
theorem Fly.no {B : Bs} {X : Cx} {E1 : XW} (h : ∀ c d Γ μ, ¬ E1 c d Γ μ) : Fly B X E1 := ⟨fun u s' ⟨a, Bg, sI, pins, σ, H, cls, d, e, I, nb, up, sky, na, os, ag, Γ, M, F, μ, _, _, _, q⟩ => (h _ _ _ _ q).elim⟩
section
variable {B : Bs} {X : Cx} {k : Nat} {f : Addr} {fd : FuncData} {ps : List Str} {c : AC} {Γ : G} {μ : Mu} {Q : A → Mu → Prop} {e : Expr} {es : List Expr} {pos p : Pos} {x : Str} {E : XK} {E1 : XW} {Z : AD}
theorem runT {pins : List (Addr × Obj)} {σ : L2.St} {H : Hp} {s : Shared} {R : VK} {us ds : List Value} {vs dvs : List V} {W : WX} (F : FnD X.prog X.w X.K X.mg X.base (L2.CX X.prog X.w) k f fd ps c) (ar : Ar X k) (bi : Binds X.K fd ps ds) (dv : Vals dvs ds) (tk : Takes X W)
    (hW : ∀ cls d H', E cls d H' → W cls d σ H') (I : Inv X pins σ H s) (rv : Vals vs us) (sp : spOf X.K c (vs ++ dvs) H R E) : wpAny (model X.prog X.w) X.A (call (.ref f) us) (EP X pins σ R) X.xe s := by
  have all := rv.append dv
  have many : (us ++ ds).length = ps.length := all.length.symm.trans (spOf.len F.len sp)
  have go := F.run X.A X.stack s H ⟨us, []⟩ (us ++ ds) (vs ++ dvs) R E ar.room ar.show0 I.env0 (bi s us I.kIn many) all sp
  refine wpAny_call (codeAny_mono go fun res s2 end2 => ?_)
  match res, end2 with
  | .error e2, end2 => exact tk e2 s2 (XE.of_call I hW end2)
  | .ok (.ret u), end2 => exact I.after end2
  | .ok .next, end2 => exact end2.elim
  | .ok .brk, end2 => exact end2.elim
  | .ok .cont, end2 => exact end2.elim
theorem wE_callT {ds : List Value} {dvs : List V} {das : List A} (F : FnD X.prog X.w X.K X.mg X.base (L2.CX X.prog X.w) k f fd ps c) (at0 : At X x f fd ps ds) (ar : Ar X k) (dv : Vals dvs ds) (da : ∀ F, RepL X.K F das dvs)
    (tk : Fly B X E1) (h : wA B X (e :: es) Γ μ fun xs μ1 => c (xs ++ das) μ1 Q fun cls d μ' => E1 cls d Γ μ') (hg : Gl X x := by rfl) (hdb : (x == ("__debug__" : Str)) = false := by decide)
    (he : starEach (e :: es) X.env = (false, eval e X.env) :: starEach es X.env := by rfl) (hpl : (backTo pos (starEach es X.env)).any (·.1) = false := by rfl) : wE B X (.Call (.Name x p) (e :: es) [] pos) Γ μ Q := by
  intro σ M F0 H bo rs rl
  refine ⟨fun pins s I => ?_⟩
  refine wpAny_Call_Name_kw (ld_glob I hg at0.mg ?_ hdb)
  refine PySem.W.callWith_K (h₀ := X.base) I.ok.mod.kin at0.kp (thn ((h σ M F0 H bo rs rl).o pos pins s I) fun us s1 got => ?_) he hpl
  obtain ⟨vs, H1, I1, rv, xs, F1, μ1, ex, rl1, rp, hc⟩ := got
  refine ⟨I1.kIn, runT (E := fun cls d H' => ∃ F' μ', Ex F0 F' ∧ Rel X.K μ' M F' H' ∧ E1 cls d Γ μ') F ar at0.bi dv tk.o (fun cls d H' ⟨F', μ', e1, r1, q⟩ => ⟨Γ, M, F', μ', bo.mono e1, rs.mono e1, r1, q⟩) I1 rv ⟨xs ++ das, F1, M, μ1, Q, _, rp.append (da F1), rl1, hc, fun y μ' F' H' v q e1 r1 p1 => ?_, fun cls d μ' F' H' q e1 r1 => ?_⟩⟩
  · exact ⟨y, F', μ', ex.trans e1, r1, p1, q⟩
  · exact ⟨F', μ', ex.trans e1, r1, q⟩
theorem wE_callT0 (F : FnD X.prog X.w X.K X.mg X.base (L2.CX X.prog X.w) k f fd ps c) (at0 : At X x f fd ps []) (ar : Ar X k) (tk : Fly B X E1) (h : c [] μ Q fun cls d μ' => E1 cls d Γ μ') (hg : Gl X x := by rfl) (hdb : (x == ("__debug__" : Str)) = false := by decide) : wE B X (.Call (.Name x p) [] [] pos) Γ μ Q := by
  intro σ M F0 H bo rs rl
  refine ⟨fun pins s I => ?_⟩
  refine wpAny_Call_Name_kw (ld_glob I hg at0.mg ?_ hdb)
  refine PySem.W.callWith_K0 I.kIn at0.kp (runT (us := []) (vs := []) (dvs := []) (E := fun cls d H' => ∃ F' μ', Ex F0 F' ∧ Rel X.K μ' M F' H' ∧ E1 cls d Γ μ') F ar at0.bi .nil tk.o (fun cls d H' ⟨F', μ', e1, r1, q⟩ => ⟨Γ, M, F', μ', bo.mono e1, rs.mono e1, r1, q⟩) I .nil
    ⟨[], F0, M, μ, Q, _, .nil, rl, h, fun y μ' F' H' v q e1 r1 p1 => ⟨y, F', μ', e1, r1, p1, q⟩, fun cls d μ' F' H' q e1 r1 => ⟨F', μ', e1, r1, q⟩⟩)
structure ExcN (K : PySem.W.Frag) (mg : Str → Option Value) (x : Str) (C : Addr) : Prop where
  ex : ∃ bmB Bn newId initId, ExcBaseFacts Bn newId initId bmB ∧ PySem.W.excIn K C bmB newId = true
  mg : mg x = some (.ref C)
  kp : PySem.W.keepIn K (.ref C) = true
  sub : PySem.W.subIn K (.ref C) (.type "BaseException") = some true
  ty : PySem.W.typeIn K (.ref C) = some (.type "type")
theorem wS_raise {C : Addr} {m : Str} {j : Nat} {p2 pos2 : Pos} (N : ExcN X.K X.mg x C) (tk : Fly B X E1) (q : E1 (.ref C) none Γ μ) (hc : X.calm = true := by rfl) (hg : Gl X x := by rfl) (hdb : (x == ("__debug__" : Str)) = false := by decide) :
    wS B X (.Raise (some (.Call (.Name x p) [.Constant (.str m) j p2] [] pos)) none pos2) Γ μ Z := by
  obtain ⟨bmB, Bn, newId, initId, F, hx⟩ := N.ex
  intro σ M F0 H bo rs rl
  exact rd_ps (ps_raise hc tk.o (pmk_own F hx N.mg N.kp (raises_own N.sub N.ty) hg hdb)) ⟨Γ, M, F0, μ, bo, rs, rl, q⟩
end
section
variable {P : Program} {w : World} {mg : Str → Option Value} {base : Heap} {K : PySem.W.Frag}
abbrev cxX (P : Program) (w : World) (K : PySem.W.Frag) (mg : Str → Option Value) (base : Heap) (N : List Str) (qual : Str) (sc : Scope) (f : Addr) (cdv : Value) (A : Around) (outer : List Env) (s : Shared) (H : Hp) (E : XK) : Cx := cxOf (L2.CX P w) P w K mg base N qual sc f cdv A outer s H E
theorem fnDX {x qual : Str} {st : Stmt} {f : Addr} {fd : FuncData} {N ps : List Str} {k : Nat} {c : AC} (F : Fun K x qual st f fd) (S : FnScope N ps (defScope st)) (len : ∀ xs μ Q E, c xs μ Q E → xs.length = ps.length)
    (go : ∀ {B : Bs} (cdv : Value) (A : Around) (outer : List Env) (s : Shared) (H : Hp) (E : XK) (xs : List D.A) (μ : Mu) (Q : D.A → Mu → Prop) (E0 : Value → Option Addr → Mu → Prop), Ar (cxX P w K mg base N qual (defScope st) f cdv A outer s H E) k → c xs μ Q E0 →
      Fly B (cxX P w K mg base N qual (defScope st) f cdv A outer s H E) (fun cls d _ μ' => E0 cls d μ') → PassesOwn (model P w) (cxX P w K mg base N qual (defScope st) f cdv A outer s H E).A (cxX P w K mg base N qual (defScope st) f cdv A outer s H E).env (cxX P w K mg base N qual (defScope st) f cdv A outer s H E).xe →
      wSs B (cxX P w K mg base N qual (defScope st) f cdv A outer s H E) (defBody st) (startA N xs) μ { nx := fun _ μ' => Q .non μ', rt := Q }) : FnD P w K mg base (L2.CX P w) (k + 1) f fd ps c := by
  obtain ⟨oc, od, kV, doc, pm, an, cdv, ct, osl, rfl, lk, hcd⟩ := F.ex
  refine FnD.body lk hcd S len fun A outer s H vs Q E room sh sp => ?_
  obtain ⟨xs, F0, M, μ, Q0, E0, rp, rl, hc, hq, he⟩ := sp
  have tk : Fly ⟨M, F0⟩ (cxX P w K mg base N qual (defScope st) f cdv A outer s H E) (fun cls d _ μ' => E0 cls d μ') := ⟨(takes_of (E := E) rfl rfl rfl rfl).imp fun cls d σ H' ⟨Γ', M', F', μ', bo, rs, r, q⟩ => he cls d μ' F' H' q bo.f (r.less bo.m)⟩
  refine (go (B := ⟨M, F0⟩) cdv A outer s H E xs μ Q0 E0 ⟨room, sh⟩ hc tk (passes_of rfl) (L2.start N vs) M F0 H (Bs.ok.own M F0) (relS_start N rp) rl).imp (fun σ2 H2 q => ?_) (fun v H2 q => ?_) (fun σ2 H2 q => ?_) (fun σ2 H2 q => ?_)
  · obtain ⟨Γ', F', μ', ex, _, rl', q⟩ := q
    exact hq .non μ' F' H2 .non q ex rl' (rep_non.mpr rfl)
  · obtain ⟨y, F', μ', ex, rl', rp', q⟩ := q
    exact hq y μ' F' H2 v q ex rl' rp'
  · obtain ⟨_, _, _, _, _, _, q⟩ := q; exact q
  · obtain ⟨_, _, _, _, _, _, q⟩ := q; exact q
structure CalX (P : Program) (w : World) (K : PySem.W.Frag) (mg : Str → Option Value) (base : Heap) (k : Nat) (x : Str) (c : AC) : Prop where
  ex : ∃ (f : Addr) (fd : FuncData) (ps : List Str), FnD P w K mg base (L2.CX P w) k f fd ps c ∧ mg x = some (.ref f) ∧ PySem.W.keepIn K (.ref f) = true ∧ Binds K fd ps []
end
section
variable {B : Bs} {X : Cx} {k j : Nat} {c : AC} {Γ : G} {μ : Mu} {Q : A → Mu → Prop} {e : Expr} {es : List Expr} {pos p : Pos} {x : Str} {E1 : XW} {Z : AD}
theorem wE_calX (C : CalX X.prog X.w X.K X.mg X.base k x c) (ar : Ar X j) (hk : k ≤ j) (tk : Fly B X E1) (h : wA B X (e :: es) Γ μ fun xs μ1 => c xs μ1 Q fun cls d μ' => E1 cls d Γ μ') (hg : Gl X x := by rfl) (hdb : (x == ("__debug__" : Str)) = false := by decide)
    (he : starEach (e :: es) X.env = (false, eval e X.env) :: starEach es X.env := by rfl) (hpl : (backTo pos (starEach es X.env)).any (·.1) = false := by rfl) : wE B X (.Call (.Name x p) (e :: es) [] pos) Γ μ Q := by
  obtain ⟨f, fd, ps, F, h1, h2, h3⟩ := C.ex
  exact wE_callT (das := []) (dvs := []) F ⟨h1, h2, h3⟩ (ar.mono hk) .nil (fun _ => .nil) tk (by simpa only [List.append_nil] using h) hg hdb he hpl
theorem wE_calX0 (C : CalX X.prog X.w X.K X.mg X.base k x c) (ar : Ar X j) (hk : k ≤ j) (tk : Fly B X E1) (h : c [] μ Q fun cls d μ' => E1 cls d Γ μ') (hg : Gl X x := by rfl) (hdb : (x == ("__debug__" : Str)) = false := by decide) : wE B X (.Call (.Name x p) [] [] pos) Γ μ Q := by
  obtain ⟨f, fd, ps, F, h1, h2, h3⟩ := C.ex
  exact wE_callT0 F ⟨h1, h2, h3⟩ (ar.mono hk) tk h hg hdb
def keptW (K : PySem.W.Frag) (c : Value) (i j : Nat) (nx : G → Mu → Prop) : XW := fun cls d Γ μ => PySem.W.exmOne K cls c = some true ∧ ∀ a, μ a = none → nx ((Γ.set j (some (.loc a))).set i none) (μ.upd a (.exc a cls d))
theorem wS_try {n y z : Str} {cv : Value} {i j : Nat} {body : List Stmt} {np np2 np3 sp pos' : Pos} (hN : X.N.Nodup) (hi : X.N[i]? = some n) (hj : X.N[j]? = some y) (hc : Names X z cv)
    (hb : ∀ (B' : Bs) (pn : List (Addr × Obj)) (xe : Value → Shared → Prop), B.le B' → Fly B' (X.tr pn xe) (keptW X.K cv i j Z.nx) → PassesOwn (model X.prog X.w) X.A X.env xe → wSs B' (X.tr pn xe) body Γ μ Z)
    (hs : X.stack = X.env :: X.outer := by rfl) (hf : X.env.frame = some X.env.locals := by rfl) (hex : X.ex = [] := by rfl) (hln : X.env.kindOf n = some .local := by rfl) (hv : Vis X.env.scope n := by first | exact Or.inl rfl | exact Or.inr (Or.inl rfl) | exact Or.inr (Or.inr rfl))
    (hd : (n == ("__debug__" : Str)) = false := by decide) (hcd : (n == ("__classdict__" : Str)) = false := by decide) (hy : Loc X.env.scope y := by first | exact Or.inl rfl | exact Or.inr rfl)
    (hsw : swapsWith (.Name n np2) (some (.Name y np3)) sp.line X.env = pure false := by rfl) (hfy : X.fn y = true ∨ X.env.scope.names.lookup y = some .local := by first | exact .inl rfl | exact .inr rfl) (il : i < Γ.length := by exact Nat.le_of_ble_eq_true rfl) :
    wS B X (.Try body [.ExceptHandler (some (.Name z np)) (some n) [.Assign [.Name y np3] (.Name n np2) sp] pos'] [] [] pos) Γ μ Z := by
  intro σ M F H bo rs rl
  refine rd_ps (ps_try_keep (Wout := fun _ _ _ _ => False) (i := i) (tb := fun W D σ H => ∀ pn xe, Takes (X.tr pn xe) W → PassesOwn (model X.prog X.w) X.A X.env xe → rdSs (X.tr pn xe) body D σ H)
    (ts := fun a cls d D σ H => ∀ oe pn, Zc cls d oe → (∃ vs, oe.data = .fields vs) → rdSs (X.suite a ((a, oe) :: pn)) [.Assign [.Name y np3] (.Name n np2) sp] D σ H) hs hf hex hN hi hln hc
    (fun u s' ⟨_, _, _, _, _, _, _, _, _, _, _, _, _, _, _, _, q⟩ => q.elim) (fun W pn xe tk pa => ⟨fun pins s σ H D I h => (h pn xe tk pa).o pins s I⟩) (fun a oe cls d pn hz hv => ⟨fun pins s σ H D I h => (h oe pn hz hv).o pins s I⟩)) ?_
  intro pn xe tk pa
  have tk' : Fly ⟨M, F⟩ (X.tr pn xe) (keptW X.K cv i j Z.nx) := ⟨tk.imp fun cls d σ' H' ⟨Γ', M', F', μ', bo', rs', r', hm, hq⟩ => ?_⟩
  · exact (hb ⟨M, F⟩ pn xe bo tk' pa) σ M F H (Bs.ok.own M F) rs rl
  refine ⟨true, hm, fun _ a na => ?_, fun z => nomatch z⟩
  intro oe pn2 hz hvs
  refine ⟨fun pins s I => ?_⟩
  have hlen := I.len
  have hiN : i < X.N.length := (List.getElem?_eq_some_iff.mp hi).1
  have hi2 : i < Γ'.length := by
    rw [rs'.len]
    have h2 : (σ'.set i (some (V.ref a))).length = X.N.length := hlen
    rw [List.length_set] at h2; omega
  have rs2 : RelS (X.suite a ((a, oe) :: pn2)).K (Γ'.set i (some (.loc a))) F' (σ'.set i (some (V.ref a))) := rs'.set (rep_loc.mpr rfl)
  have st : wSs ⟨M', F'⟩ (X.suite a ((a, oe) :: pn2)) [.Assign [.Name y np3] (.Name n np2) sp] (Γ'.set i (some (.loc a))) μ' { nx := fun Γ3 μ3 => Γ3 = (Γ'.set i (some (.loc a))).set j (some (.loc a)) ∧ μ3 = μ', rt := fun _ _ => False } :=
    wSs_cons (wS_set j (wE_name i (by rw [List.getElem?_set_self hi2]) (wSs_nil ⟨rfl, rfl⟩) hi hv hd hcd) hN hj hy hsw hfy)
  refine ((st (σ'.set i (some (V.ref a))) M' F' H' (Bs.ok.own M' F') rs2 r').imp (fun σ3 H3 q n3 => ?_) (fun v H3 q => ?_) (fun σ3 H3 q => ?_) (fun σ3 H3 q => ?_)).o pins s I
  · obtain ⟨Γ3, F3, μ3, ex3, rs3, r3, rfl, rfl⟩ := q
    obtain ⟨nm, r4⟩ := r3.new (m := .exc a cls d) (o := XO a cls d) n3 rfl
    refine ⟨((Γ'.set j (some (.loc a))).set i none), F3, _, bo'.f.trans ex3, ?_, r4.less bo'.m, hq a nm⟩
    have e : ((Γ'.set j (some (A.loc a))).set i none) = (((Γ'.set i (some (A.loc a))).set j (some (A.loc a))).set i none) := by
      by_cases ij : i = j
      · subst ij; simp only [List.set_set]
      · rw [List.set_comm (some (A.loc a)) (some (A.loc a)) ij, List.set_set]
    rw [e]
    refine ⟨by have := rs3.len; simp only [List.length_set] at this ⊢; exact this, fun q x hx => ?_⟩
    rw [List.getElem?_set] at hx
    split at hx
    · split at hx <;> cases hx
    · rename_i hne
      obtain ⟨v, h1, h2⟩ := rs3.at_ q x hx
      exact ⟨v, by rw [List.getElem?_set_ne hne]; exact h1, h2⟩
  · obtain ⟨_, _, _, _, _, _, z⟩ := q; exact z.elim
  · obtain ⟨_, _, _, _, _, _, z⟩ := q; exact z.elim
  · obtain ⟨_, _, _, _, _, _, z⟩ := q; exact z.elim
end
end D

namespace D
open PySem PySem.Spec PyProof.Rows L2
open LamX (CodeO TabB LamS lamCx lamEnv)
section
variable {X : Cx} {H : Hp} {s : Shared} {pins : List (Addr × Obj)} {σ : L2.St}
abbrev lamObj (X : Cx) (params : Arguments) (body : Expr) (scope : Scope) (pm ctv : Value) (c' : Addr) : Obj := PySem.W.kla_obj "<lambda>" (X.env.qual ++ "<lambda>") params body scope (cloFrom X.env.cells scope.names []) pm c' ctv
theorem Inv_new (I : L2.Inv X pins σ H s) {f : Addr} (up : s.heap.objs.size ≤ f) : H f = none ∧ f ∉ frs X.stack := by
  refine ⟨I.hok.fresh up, fun m => ?_⟩
  obtain ⟨_, o, e, _⟩ := I.stack.mem m
  exact Nat.lt_irrefl _ (Nat.lt_of_lt_of_le (Heap.lt_size e) up)
def Asked (H : Hp) (P : Addr) (ps : Array Value) (q : Str) (pos : Pos) (c' : Addr) (H1 : Hp) : Prop :=
  (H1 = H ∧ codeAmong pos ps.toList = some (.ref c')) ∨ (H c' = none ∧ ∃ ps' : Array Value, H1 = upd (upd H P (.tbl ps')) c' (CodeO c' q) ∧ TriplesOk ps'.toList ∧ ∀ (p' : Pos) (cv : Value), codeAmong p' ps'.toList = some cv → codeAmong p' ps.toList = some cv ∨ cv = .ref c')
theorem asked_new {P c' : Addr} {ps : Array Value} {q : Str} {pos : Pos} (ok : TriplesOk ps.toList) (nc : H c' = none) : Asked H P ps q pos c' (upd (upd H P (.tbl (ps ++ #[rawInt pos.line, rawInt pos.col, .ref c']))) c' (CodeO c' q)) := by
  have flat : (ps ++ #[rawInt pos.line, rawInt pos.col, .ref c']).toList = ps.toList ++ [rawInt pos.line, rawInt pos.col, .ref c'] := Array.toList_append
  refine .inr ⟨nc, _, rfl, flat ▸ PySem.TriplesOk_snoc _ _ _ _ ok, fun p' cv => ?_⟩
  rw [flat]; exact LamX.among_app _ ok
theorem lam_mk {c P : Addr} {ps : Array Value} {params : Arguments} {body : Expr} {scope : Scope} {pos : Pos} {E : Value → Shared → Prop} {Q : Value → Shared → Prop} (I : L2.Inv X pins σ H s) (TB : TabB X.base X.mg c P) (hcode : X.env.code = .ref c)
    (hP : H P = some (.tbl ps)) (ht : TriplesOk ps.toList) (ha : ∀ (pos : Pos) (cv : Value), codeAmong pos ps.toList = some cv → ∃ c, cv = .ref c ∧ H c = some (CodeO c (X.env.qual ++ "<lambda>"))) (hdef : defaultsOf params X.env = ([], [])) (hfree : ∀ y ∈ scope.names, y.2 = .free → ∃ c, X.env.cells.lookup y.1 = some c)
    (h : ∀ (f c' : Addr) (pm ctv : Value) (H1 : Hp) (s' : Shared), L2.Inv X pins σ H1 s' → Asked H P ps (X.env.qual ++ "<lambda>") pos c' H1 → s'.heap.get? f = some (lamObj X params body scope pm ctv c') → H1 f = none → f ∉ frs X.stack → Q (.ref f) s') :
    wpAny (model X.prog X.w) X.A (eval (.Lambda params body scope pos) X.env) Q E s := by
  have table : s.heap.get? P = some { cls := .none, data := .fields ps } := I.hok P _ hP
  have globals := I.mod.glob.keeps I.bk
  have builtins := TB.bm.keeps I.bk
  have clo := closure_ok hfree
  refine PySem.W.kla_eval hdef ?_
  rcases among : codeAmong pos ps.toList with _ | cv
  · refine PySem.W.kla_makeFunction (mg := X.mg) clo I.ok.glob globals hcode (TB.code.keeps I.bk) table ht among TB.gP builtins ?_
    rintro c' ctv g tk others above below ⟨_, oc, vs, t, ⟨⟩, e1, e2, e3⟩ table'
    have up : s.heap.objs.size ≤ g.objs.size := Nat.le_trans above (Nat.le_of_lt below)
    have nc := (Inv_new I above).1
    let lam := lamObj X params body scope ((X.mg "__name__").getD .none) ctv c'
    have put : ∀ {b : Addr} {o : Obj}, g.get? b = some o → (g.push lam).get? b = some o := fun e => Heap.get?_push_of_some lam e
    have J := LamX.inv_table (t' := tk) (q := X.env.qual ++ "<lambda>") (more := #[rawInt pos.line, rawInt pos.col, .ref c']) (h' := g.push lam) I hP (fun b o ne e => put (others b o ne e)) (put table') above ⟨oc, vs, t, put e1, e2, e3⟩
    have new := Inv_new I up
    refine h g.objs.size c' _ ctv _ _ J (asked_new ht nc) (Heap.get?_push_size _ rfl) ?_ new.2
    have ne1 : g.objs.size ≠ c' := fun z => Nat.lt_irrefl _ (z ▸ below)
    have ne2 : g.objs.size ≠ P := fun z => by have := Nat.lt_of_lt_of_le (Heap.lt_size table) up; rw [z] at this; exact Nat.lt_irrefl _ this
    exact (upd_ne ne1).trans ((upd_ne ne2).trans new.1)
  · obtain ⟨c', rfl, known⟩ := ha pos cv among
    refine PySem.W.kla_makeFunctionHit (mg := X.mg) clo I.ok.glob globals hcode (TB.code.keeps I.bk) table ht among builtins fun ctv g tk others above => ?_
    have new := Inv_new I above
    exact h g.objs.size c' _ ctv H { s with heap := g.push _, toks := tk } (I.kept fun b o e => Heap.get?_push_of_some _ (others b o e)) (.inl ⟨rfl, among⟩) (Heap.get?_push_size _ rfl) new.1 new.2
end
theorem Rel.table {K : PySem.W.Frag} {μ : Mu} {M F H H1 : Hp} {P c' : Addr} {q : Str} {ps : Array Value} (r : Rel K μ M F H) (hm : μ P = some (.tbl q)) (hP : H P = some (.tbl ps)) (hF : ∀ (p' : Pos) (cv : Value), codeAmong p' ps.toList = some cv → ∃ c, cv = .ref c ∧ F c = some (CodeO c q))
    {pos : Pos} (e : Asked H P ps q pos c' H1) :
    ∃ F1, Ex F F1 ∧ Rel K μ M F1 H1 ∧ F1 c' = some (CodeO c' q) := by
  rcases e with ⟨rfl, h⟩ | ⟨nc, ps', rfl, ht, hps⟩
  · obtain ⟨c, e1, e2⟩ := hF _ _ h
    cases e1
    exact ⟨F, .refl _, r, e2⟩
  · have nF : F c' = none := r.sub.none nc
    have nM : M c' = none := by
      cases z : M c' with
      | none => rfl
      | some o => have := (r.frm c' o z).2.2; rw [nc] at this; cases this
    have nμ : μ c' = none := by
      cases z : μ c' with
      | none => rfl
      | some m => obtain ⟨_, o, h1, _⟩ := r.own c' m z; rw [nc] at h1; cases h1
    have nP : P ≠ c' := fun z => by rw [z, nc] at hP; cases hP
    have fP : F P = none := (r.own P _ hm).1
    have ex : Ex F (upd F c' (CodeO c' q)) := .new nF
    refine ⟨_, ex, ⟨fun b o h => ?_, fun p m h => ?_, fun p o h => ?_⟩, upd_same⟩
    · by_cases hb : b = c'
      · subst hb; rw [upd_same] at h ⊢; exact h
      · rw [upd_ne hb] at h ⊢
        rw [upd_ne (fun z => by rw [z, fP] at h; cases h)]
        exact r.sub b o h
    · obtain ⟨h1, o, h2, h3⟩ := r.own p m h
      have np : p ≠ c' := fun z => by rw [z, nμ] at h; cases h
      refine ⟨by rw [upd_ne np]; exact h1, ?_⟩
      by_cases hb : p = P
      · subst hb
        rw [hm] at h; cases h
        refine ⟨.tbl ps', by rw [upd_ne np, upd_same], ps', rfl, ht, fun p' cv hcv => ?_⟩
        rcases hps p' cv hcv with z | z
        · obtain ⟨c, e1, e2⟩ := hF p' cv z
          exact ⟨c, e1, ex _ _ e2⟩
        · exact ⟨c', z, upd_same⟩
      · exact ⟨o, by rw [upd_ne np, upd_ne hb]; exact h2, h3.mono ex⟩
    · obtain ⟨h1, h2, h3⟩ := r.frm p o h
      have np : p ≠ c' := fun z => by rw [z, nM] at h; cases h
      have nP2 : p ≠ P := fun z => by rw [z, hm] at h2; cases h2
      exact ⟨by rw [upd_ne np]; exact h1, h2, by rw [upd_ne np, upd_ne nP2]; exact h3⟩
section
variable {X : Cx} {H : Hp} {s : Shared} {pins : List (Addr × Obj)} {σ : L2.St}
theorem back_to {Z : Cx} {pins : List (Addr × Obj)} {σ : L2.St} {H : Hp} {s : Shared} {C : CXT} {Q : VK} {E : XK} (J : L2.Inv Z pins σ H s) (out : ∀ e s', C Z.stack H s E e s' → Z.xe e s') {r : Result} {s' : Shared} (q : CR C Z.stack Z.prog Z.w H s Q E r s') :
    wants (fun v s1 => EP Z pins σ Q v s1) Z.xe r s' := by
  rcases r with e | f
  · exact out e s' q
  · cases f
    case ret u => exact J.after q
    all_goals exact q.elim
theorem deed_code {A : Around} {outer : List Env} {s1 : Shared} {HZ : Hp} {E : XK} {f c' : Addr} {pm ctv : Value} {params : Arguments} {body : Expr} {scope : Scope} {k : Nat} {tb : TE} {Q : VK}
    (I : L2.Inv X pins σ H s) (L : LamS X.env.scope scope) (e0 : Env0 X.prog X.w X.K X.mg X.base A outer s1 HZ) (un : Un (frs X.stack) [] H HZ s.heap s1.heap) (free : s1.heap.NoLimit) (obj : s1.heap.get? f = some (lamObj X params body scope pm ctv c')) (code : ObjOk X.prog X.w HZ s1.heap c' (CodeO c' (X.env.qual ++ "<lambda>")))
    (bind : bindArgs (PySem.W.kla_fn "<lambda>" (X.env.qual ++ "<lambda>") params body scope (cloFrom X.env.cells scope.names []) pm (.ref c') ctv) ⟨[], []⟩ = pure []) (room : Room (k + 1) A)
    (read : Room k (A.deeper (lamEnv X scope s1.heap.objs.size f c')) → PE (lamCx X A outer s1 HZ E scope f c') body tb) (q : tb σ HZ Q) :
    codeAny (model X.prog X.w) A (.call (.ref f) ⟨[], []⟩) (CR (L2.CX X.prog X.w) outer X.prog X.w HZ s1 Q E) s1 := by
  obtain ⟨oc, vs, t, c1, c2, c3⟩ := code.1
  refine PySem.W.kla_callFunE room.depth obj rfl L.co L.gen rfl ⟨c', oc, vs, t, rfl, c1, c2, c3⟩ ?_
  rw [bind]
  refine wpAny_pure (wpAny_newFunctionEnv (fun y m => (L.own y m).2) (fun y m => by cases m) (fun g ns sb => ⟨free.fresh _ sb, PySem.W.kla_codeExpr ?_⟩) L.kind)
  have stays : ∀ b o, s1.heap.get? b = some o → g.get? b = some o := fun b o e => sb.extBut b o (fun z => Nat.lt_irrefl _ (z ▸ Heap.lt_size e)) (Heap.get?_push_of_some _ e)
  have J := LamX.lam_start2 (E := E) (f := f) (c' := c') (tk := s1.toks + 0) I L e0 room.hd un ns stays
  exact wpAny_mono ((read (room.deeper _)).run [] _ σ HZ Q J q) (fun v s' got => got.imp fun w got => got.imp fun H' got => ⟨got.1.os, got.1.bare, got.1.base, got.1.hok, got.2⟩) fun _ _ z => z
theorem pe_deed {CXg : CXT} {Eg : XK} {Ng : List Str} {qg : Str} {sg : Scope} {g f c' : Addr} {cdg pm ctv : Value} {params : Arguments} {body : Expr} {scope : Scope} {k i : Nat} {a : Str} {pn : List (Addr × Obj)} {xe : Value → Shared → Prop} {W : WX} {E : XK} {tb : TE} {p1 p2 : Pos}
    (I : L2.Inv X pins σ H s) (L : LamS X.env.scope scope) (hf : s.heap.get? f = some (lamObj X params body scope pm ctv c')) (hfn : H f = none) (hfr : f ∉ frs X.stack)
    (hbind : bindArgs (PySem.W.kla_fn "<lambda>" (X.env.qual ++ "<lambda>") params body scope (cloFrom X.env.cells scope.names []) pm (.ref c') ctv) ⟨[], []⟩ = pure [])
    (tk : Takes ((cxOf CXg X.prog X.w X.K X.mg X.base Ng qg sg g cdg X.A X.stack s H Eg).tr pn xe) W) (hr : Room (k + 1) (X.A.deeper (envOfC qg sg s.heap.objs.size g cdg))) (hg : X.A.guards = some [])
    (hbody : ∀ (A : Around) (outer : List Env) (s : Shared) (H : Hp), Room k (A.deeper (lamEnv X scope s.heap.objs.size f c')) → A.guards = some [] → PE (lamCx X A outer s H E scope f c') body tb)
    (hN : Ng[i]? = some a) (hv : Vis sg a) (hd : (a == ("__debug__" : Str)) = false) (hcd : (a == ("__classdict__" : Str)) = false) {pinsZ : List (Addr × Obj)} {sZ : Shared} {σZ : L2.St} {HZ : Hp} {Q : VK}
    (IZ : L2.Inv ((cxOf CXg X.prog X.w X.K X.mg X.base Ng qg sg g cdg X.A X.stack s H Eg).tr pn xe) pinsZ σZ HZ sZ) (hW : ∀ cls d H', E cls d H' → W cls d σZ H') (hs : σZ[i]? = some (some (.ref f))) (hc : HZ c' = some (CodeO c' (X.env.qual ++ "<lambda>"))) (ht : tb σ HZ Q) :
    wpAny (model X.prog X.w) ((cxOf CXg X.prog X.w X.K X.mg X.base Ng qg sg g cdg X.A X.stack s H Eg).tr pn xe).A (eval (.Call (.Name a p1) [] [] p2) ((cxOf CXg X.prog X.w X.K X.mg X.base Ng qg sg g cdg X.A X.stack s H Eg).tr pn xe).env) (EP ((cxOf CXg X.prog X.w X.K X.mg X.base Ng qg sg g cdg X.A X.stack s H Eg).tr pn xe) pinsZ σZ Q) ((cxOf CXg X.prog X.w X.K X.mg X.base Ng qg sg g cdg X.A X.stack s H Eg).tr pn xe).xe sZ := by
  have name := (pe_var (X := (cxOf CXg X.prog X.w X.K X.mg X.base Ng qg sg g cdg X.A X.stack s H Eg).tr pn xe) (pos := p1) (i := i) hN hv hd hcd).run pinsZ sZ σZ HZ (fun v H1 => v = .ref f ∧ H1 = HZ) IZ ⟨.ref f, hs, rfl, rfl⟩
  refine wpAny_Call_Name_kw (thn name fun u s1 got => ?_)
  obtain ⟨_, _, J, ru, rfl, same⟩ := got
  rw [same] at J
  obtain rfl : u = Value.ref f := ru
  have obj := J.base.keep f _ hf hfn hfr List.not_mem_nil
  refine PySem.W.callWith_F0 ⟨_, _, _, _, obj⟩ (wpAny_call (codeAny_mono ?_ fun r s' q => back_to J (fun e s2 x => tk e s2 (XE.of_call J hW x)) q))
  exact deed_code I L J.env0 J.base J.nolimit obj (J.hok c' _ hc) hbind hr (fun room => hbody _ _ _ _ room hg) ht
end
abbrev DL := Mu → (A → Mu → Prop) → (Value → Option Addr → Mu → Prop) → Prop
structure Act (B : Bs) (Z : Cx) (a : Str) (f : Addr) (dl : DL) : Prop where
  o : ∀ (B' : Bs) (pn : List (Addr × Obj)) (xe : Value → Shared → Prop) (Γ : G) (μ : Mu) (Q : A → Mu → Prop) (E1 : XW) (p1 p2 : Pos), B.le B' → Fly B' (Z.tr pn xe) E1 → Γ[0]? = some (some (.loc f)) → dl μ Q (fun cls d μ' => E1 cls d Γ μ') → wE B' (Z.tr pn xe) (.Call (.Name a p1) [] [] p2) Γ μ Q
structure LG (P : Program) (w : World) (K : PySem.W.Frag) (mg : Str → Option Value) (base : Heap) (k : Nat) (x : Str) (c : DL → Mu → (A → Mu → Prop) → Prop) : Prop where
  ex : ∃ (g : Addr) (pg : Arguments) (bg : List Stmt) (sg : Scope) (dV kV doc pm cdv ct oc : Value) (an od : Option Addr) (osl : Array (Option Value)) (Ng : List Str) (a : Str), mg x = some (.ref g) ∧ PySem.W.keepIn K (.ref g) = true ∧
    K.lookup g = some ⟨oc, od, .func (PySem.W.fnOf x x pg bg sg dV kV doc pm an cdv ct), osl⟩ ∧ PySem.W.codeIn K cdv x = true ∧ L2.Binds K (PySem.W.fnOf x x pg bg sg dV kV doc pm an cdv ct) [a] [] ∧ FnScope Ng [a] sg ∧ Ng[0]? = some a ∧ Vis sg a ∧ (a == ("__debug__" : Str)) = false ∧ (a == ("__classdict__" : Str)) = false ∧
    ∀ (B : Bs) (A : Around) (outer : List Env) (s : Shared) (H : Hp) (f : Addr) (dl : DL) (μ : Mu) (Q : D.A → Mu → Prop), Ar (cxOf C8.CX0 P w K mg base Ng x sg g cdv A outer s H C8.E0) k → c dl μ Q → Act B (cxOf C8.CX0 P w K mg base Ng x sg g cdv A outer s H C8.E0) a f dl →
      wSs B (cxOf C8.CX0 P w K mg base Ng x sg g cdv A outer s H C8.E0).nox bg (startA Ng [.loc f]) μ { nx := fun _ μ' => Q .non μ', rt := Q }
def LamZ (X : Cx) (scope : Scope) (Z : Cx) : Prop := ∃ A outer s H E f c', Z = lamCx X A outer s H E scope f c'
theorem wE_lam {B : Bs} {X : Cx} {k j : Nat} {x q : Str} {cc P : Addr} {c : DL → Mu → (A → Mu → Prop) → Prop} {Γ : G} {μ : Mu} {Q : A → Mu → Prop} {params : Arguments} {body : Expr} {scope : Scope} {p lpos pos : Pos}
    (C : LG X.prog X.w X.K X.mg X.base k x c) (ar : Ar X j) (hk : k + 2 ≤ j) (TB : TabB X.base X.mg cc P) (hcode : X.env.code = .ref cc) (hq : X.env.qual ++ "<lambda>" = q) (hm : μ P = some (.tbl q)) (L : LamS X.env.scope scope) (hdef : defaultsOf params X.env = ([], []))
    (hbind : ∀ (q : Str) (cl : List (Str × Addr)) (pm cv ctv : Value), bindArgs (PySem.W.kla_fn "<lambda>" q params body scope cl pm cv ctv) ⟨[], []⟩ = pure [])
    (h : ∀ dl : DL, (∀ μZ Q' E', (∀ (B' : Bs) (Z : Cx), LamZ X scope Z → Ar Z k → Fly B' Z (fun cls d _ μ' => E' cls d μ') → PassesOwn (model Z.prog Z.w) Z.A Z.env Z.xe → wE B' Z body Γ μZ Q') → dl μZ Q' E') → c dl μ Q) (hg : Gl X x := by rfl)
    (hdb : (x == ("__debug__" : Str)) = false := by decide) : wE B X (.Call (.Name x p) [.Lambda params body scope lpos] [] pos) Γ μ Q := by
  subst hq
  obtain ⟨g, pg, bg, sg, dV, kV, doc, pm, cdv, ct, oc, an, od, osl, Ng, a, m1, m2, m3, m4, m5, m6, m7, m8, m9, m10, go⟩ := C.ex
  intro σ M F H bo rs rl
  refine ⟨fun pins s I => ?_⟩
  refine wpAny_Call_Name_kw (ld_glob I hg m1 ?_ hdb)
  refine PySem.W.callWith_K (h₀ := X.base) I.ok.mod.kin m2 ?_ (by rfl) (by rfl)
  show wpAny _ _ (spliced ((false, eval (.Lambda params body scope lpos) X.env) :: backTo pos (starEach [] X.env))) _ _ s
  obtain ⟨_, o, hP, ps, rfl, ht, ha⟩ := rl.own P _ hm
  refine Calls.spliced_cons (lam_mk I TB hcode hP ht (fun p' cv hcv => let ⟨c, e1, e2⟩ := ha p' cv hcv; ⟨c, e1, rl.sub _ _ e2⟩) hdef (L.has I.ok) fun f c' pm' ctv H1 s' I1 grown hf hfn hfr => ?_)
  obtain ⟨F1, ex1, rl1, hc1⟩ := rl.table hm hP ha grown
  refine Calls.spliced_nil ⟨I1.kIn, ?_⟩
  have rs1 := rs.mono ex1
  let dl : DL := fun μZ Q' E' => ∀ (B' : Bs) (Z : Cx), Bs.le ⟨M, F1⟩ B' → LamZ X scope Z → Ar Z k → Fly B' Z (fun cls d _ μ' => E' cls d μ') → PassesOwn (model Z.prog Z.w) Z.A Z.env Z.xe → wE B' Z body Γ μZ Q'
  have cdl : c dl μ Q := h dl fun μZ Q' E' k => fun B' Z _ a b t u => k B' Z a b t u
  have room2 : Room (k + 2) X.A := ar.room.mono hk
  have rc : codeAny (model X.prog X.w) X.A (.call (.ref g) ⟨[.ref f], []⟩) (CR C8.CX0 X.stack X.prog X.w H1 s' (QE X.K M F Q) C8.E0) s' := by
    refine LamX.run_ofS (N := Ng) (ps := [a]) (us := [.ref f]) (vs := [.ref f]) m3 m4 m6 room2 I1.env0 (m5 s' [.ref f] I1.kIn rfl) (.cons rfl .nil) rfl fun hr' => ?_
    have act : Act ⟨M, F1⟩ (cxOf C8.CX0 X.prog X.w X.K X.mg X.base Ng x sg g cdv X.A X.stack s' H1 C8.E0) a f dl := ⟨fun B' pn xe ΓZ μZ Q' E1 p1 p2 le tkZ h0 hd => by
      intro σZ MZ FZ HZ boZ rsZ rlZ
      refine ⟨fun pinsZ sZ IZ => ?_⟩
      have b1 := le.ok boZ
      obtain ⟨vf, hvf, rvf⟩ := rsZ.at_ 0 _ h0
      rw [rep_loc] at rvf; subst rvf
      refine pe_deed (E := fun cls d H' => ∃ F' μ', Ex FZ F' ∧ Rel X.K μ' MZ F' H' ∧ E1 cls d ΓZ μ') (tb := fun σ HZ Q => ∀ (A : Around) (outer : List Env) (s2 : Shared) (H2 : Hp), Room k (A.deeper (lamEnv X scope s2.heap.objs.size f c')) → A.guards = some [] → rdE (lamCx X A outer s2 H2 (fun cls d H' => ∃ F' μ', Ex FZ F' ∧ Rel X.K μ' MZ F' H' ∧ E1 cls d ΓZ μ') scope f c') body σ HZ Q)
        (i := 0) I1 L hf hfn hfr (hbind _ _ _ _ _) tkZ.o hr' ar.show0 (fun A outer s2 H2 hr2 hg2 => ⟨fun pins s σ H Q I h => (h A outer s2 H2 hr2 hg2).o pins s I⟩) m7 m8 m9 m10 IZ (fun cls d H' ⟨F', μ', e1, r1, q⟩ => ⟨ΓZ, MZ, F', μ', boZ.mono e1, rsZ.mono e1, r1, q⟩) hvf (rlZ.sub _ _ (b1.f _ _ hc1)) (fun A outer s2 H2 hr2 hg2 => ?_)
      have tkL : Fly ⟨MZ, FZ⟩ (lamCx X A outer s2 H2 (fun cls d H' => ∃ F' μ', Ex FZ F' ∧ Rel X.K μ' MZ F' H' ∧ E1 cls d ΓZ μ') scope f c') (fun cls d _ μ' => E1 cls d ΓZ μ') :=
        ⟨(takes_of (E := fun cls d H' => ∃ F' μ', Ex FZ F' ∧ Rel X.K μ' MZ F' H' ∧ E1 cls d ΓZ μ') rfl rfl rfl rfl).imp fun cls d σ' H' ⟨Γ', M', F', μ', bo', rs', r', q⟩ => ⟨F', μ', bo'.f, r'.less bo'.m, q⟩⟩
      exact (hd ⟨MZ, FZ⟩ _ b1 ⟨A, outer, s2, H2, _, f, c', rfl⟩ ⟨hr2, hg2⟩ tkL (passes_of rfl)) σ MZ FZ HZ (Bs.ok.own MZ FZ) (rs1.mono b1.f) rlZ⟩
    have go1 := go ⟨M, F1⟩ X.A X.stack s' H1 f dl μ Q ⟨hr'.mono (by omega), ar.show0⟩ cdl act (L2.start Ng [.ref f]) M F1 H1 (Bs.ok.own M F1) (relS_start Ng (.cons (rep_loc.mpr rfl) .nil)) rl1
    refine ⟨_, pss_rd.nox, go1.imp (fun σ2 H2 q => ?_) (fun v H2 q => ?_) (fun σ2 H2 q => ?_) (fun σ2 H2 q => ?_)⟩
    · obtain ⟨Γ', F', μ', e2, _, r2, q⟩ := q
      exact ⟨.non, F', μ', ex1.trans e2, r2, rep_non.mpr rfl, q⟩
    · obtain ⟨y, F', μ', e2, r2, p2, q⟩ := q
      exact ⟨y, F', μ', ex1.trans e2, r2, p2, q⟩
    · obtain ⟨_, _, _, _, _, _, q⟩ := q; exact q
    · obtain ⟨_, _, _, _, _, _, q⟩ := q; exact q
  exact wpAny_call (codeAny_mono rc fun r s2 q => back_to I1 (fun e s3 x => (show False from x).elim) q)
end D

namespace D
open PySem PySem.Spec PyProof.Rows L2
def ClsA (c : A) (cv : Value) : Prop := (∃ C, c = .loc C ∧ cv = .ref C) ∨ ∃ n, c = .ty n ∧ cv = .type n
theorem ClsA.eq {K : PySem.W.Frag} {F : Hp} {c : A} {cv : Value} {v : V} {u : Value} (h : ClsA c cv) (r : Rep K F c v) (rv : RelV v u) : u = cv := by
  rcases h with ⟨C, rfl, rfl⟩ | ⟨n, rfl, rfl⟩
  · rw [rep_loc] at r; subst r; exact rv
  · rw [rep_ty] at r; subst r; exact rv
section
variable {B : Bs} {X : Cx} {Γ : G} {μ : Mu} {Q : A → Mu → Prop} {Z : AD} {o e : Expr} {es : List Expr} {pos apos : Pos} {m : Str} {C : Addr} {j k : Nat} {cc : AC} {E1 : XW}
theorem kept_at {pins : List (Addr × Obj)} {σ : L2.St} {H M F : Hp} {s : Shared} {a D : Addr} (I : Inv X pins σ H s) (rl : Rel X.K μ M F H) (ha : μ a = some (.exc a (.ref D) none)) : ∃ oe, PySem.W.InstAt s.heap a oe D none := by
  obtain ⟨_, ob, g1, g2⟩ := rl.own a _ ha
  have e : ob = XO a (.ref D) none := g2
  subst e
  obtain ⟨⟨oe, vs, h1, h2, h3⟩, _⟩ := I.hok a _ g1
  obtain ⟨oc, od, oda, osl⟩ := oe
  obtain ⟨z1, z2⟩ := h2
  dsimp only at z1 z2 h3
  subst z1 z2 h3
  exact ⟨_, h1, rfl, rfl, trivial⟩
theorem wC_isX {a D : Addr} {c : A} {cv : Value} {b : Bool} (N : ExcC X.K D) (ha : μ a = some (.exc a (.ref D) none)) (hc : ClsA c cv) (e : PySem.W.kitOne X.K (.ref D) cv = some b) (q : Q (.bl b) μ) : wC X (.builtin "isinstance") [.loc a, c] μ Q := by
  intro M F H vs rl rp
  refine ⟨fun pins s σ us I rv => ?_⟩
  obtain ⟨v, w, rfl, h1, h2⟩ := rp.two
  obtain ⟨u, t, rfl, ru, rt⟩ : ∃ u t, us = [u, t] ∧ RelV v u ∧ RelV w t := by
    cases rv with
    | cons r1 r2 => cases r2 with
      | cons r3 r4 => cases r4; exact ⟨_, _, rfl, r1, r3⟩
  rw [rep_loc] at h1; subst h1
  cases ru
  obtain rfl := hc.eq h2 rt
  obtain ⟨oe, J⟩ := kept_at I rl ha
  exact PySem.W.kia_one (PySem.W.handS_kitx_exc N.hg N.hk N.hs N.hd N.ha N.hn N.ht N.hm) I.kIn J e (fun z => nomatch z) fun tk => ⟨.bl b, H, I.kept (t' := tk) fun _ _ z => z, rfl, .pure rl (rep_bl.mpr rfl) q⟩
inductive ClsAs : List A → List Value → Prop
  | nil : ClsAs [] []
  | cons {c : A} {cv : Value} {cs : List A} {cvs : List Value} : ClsA c cv → ClsAs cs cvs → ClsAs (c :: cs) (cv :: cvs)
theorem ClsAs.eq {K : PySem.W.Frag} {F : Hp} : ∀ {cs : List A} {cvs us : List Value} {vs : List V}, ClsAs cs cvs → RepL K F cs vs → Vals vs us → us = cvs
  | _, _, _, _, .nil, h, r => by simp only [RepL] at h; subst h; cases r; rfl
  | _, _, _, _, .cons c t, h, r => by
    simp only [RepL] at h
    obtain ⟨v, w, rfl, h1, h2⟩ := h
    cases r with
    | cons r1 r2 => rw [c.eq h1 r1, t.eq h2 r2]
theorem wC_isXT {a D : Addr} {cs : List A} {cvs : List Value} {b : Bool} (N : ExcC X.K D) (ha : μ a = some (.exc a (.ref D) none)) (hc : ClsAs cs cvs) (e : PySem.W.kitAny X.K (.ref D) cvs = some b) (q : Q (.bl b) μ) : wC X (.builtin "isinstance") [.loc a, .tup cs] μ Q := by
  intro M F H vs rl rp
  refine ⟨fun pins s σ us I rv => ?_⟩
  obtain ⟨v, w, rfl, h1, h2⟩ := rp.two
  obtain ⟨u, t, rfl, ru, rt⟩ : ∃ u t, us = [u, t] ∧ RelV v u ∧ RelV w t := by
    cases rv with
    | cons r1 r2 => cases r2 with
      | cons r3 r4 => cases r4; exact ⟨_, _, rfl, r1, r3⟩
  rw [rep_loc] at h1; subst h1
  cases ru
  rw [rep_tup] at h2
  obtain ⟨tp, xs, rfl, g1, g2⟩ := h2
  cases rt
  obtain ⟨its, hv, ht, _⟩ := I.tuple (rl.sub.t g1)
  have e3 := hc.eq g2 hv
  subst e3
  obtain ⟨⟨oc, od, dt, sl⟩, h1, rfl, n, rfl⟩ := ht
  obtain ⟨oe, J⟩ := kept_at I rl ha
  exact PySem.W.kia_tup (PySem.W.handS_kitx_exc N.hg N.hk N.hs N.hd N.ha N.hn N.ht N.hm) I.kIn J h1 e (fun z => nomatch z) fun tk => ⟨.bl b, H, I.kept (t' := tk) fun _ _ z => z, rfl, .pure rl (rep_bl.mpr rfl) q⟩
structure CalMX (P : Program) (w : World) (K : PySem.W.Frag) (mg : Str → Option Value) (base : Heap) (k : Nat) (C : Addr) (m : Str) (c : AC) : Prop where
  ex : ∃ (f : Addr) (fd : FuncData) (ps : List Str), FnD P w K mg base (L2.CX P w) k f fd ps c ∧ Meth K C m f ∧ Binds K fd ps []
theorem wE_methX (cl : Cls X.K C) (Dm : CalMX X.prog X.w X.K X.mg X.base k C m cc) (ar : Ar X j) (hk : k ≤ j) (tk : Fly B X E1) (h : wE B X o Γ μ fun x μ1 => ∃ p dx fs, x = .loc p ∧ μ1 p = some (.ins C dx fs) ∧ fs.lookup m = none ∧ wA B X (e :: es) Γ μ1 fun xs μ2 => cc (.loc p :: xs) μ2 Q fun cls d μ' => E1 cls d Γ μ')
    {pl : Sem Bool} (hst : starEach (e :: es) X.env = (false, eval e X.env) :: starEach es X.env := by rfl) (hpl : (backTo pos (starEach es X.env)).any (·.1) = false := by rfl)
    (ht : eval (.Call (.Attribute o m apos) (e :: es) [] pos) X.env = (eval o X.env >>= fun a => standAt apos.atName >>= fun _ => (holding [a] (getMethod a m pl) >>= fun g => callWith pos g.1 g.2 (backTo pos (starEach (e :: es) X.env)) (backToKw pos (keywordEach [] X.env)))) := by rfl) : wE B X (.Call (.Attribute o m apos) (e :: es) [] pos) Γ μ Q := by
  obtain ⟨fa, fd, ps, Fn, hm, bi⟩ := Dm.ex
  intro σ M F0 H bo rs rl
  refine ⟨fun pins s I => ?_⟩
  refine PySem.W.methodCall_KW (pl := pl) (thn ((h σ M F0 H bo rs rl).o pins s I) fun u s1 got => ?_) ht
  obtain ⟨v, H1, I1, rv, x, F1, μ1, ex1, r1, p1, p, dx, fs, ex, hp, hl, q1⟩ := got
  subst ex; rw [rep_loc] at p1; subst p1
  obtain rfl : u = Value.ref p := rv
  obtain ⟨_, ob, g1, ws, rfl, g2⟩ := r1.own p _ hp
  refine getmeth_ok I1 g1 cl hm (lookup_none g2 hl) ?_
  refine PySem.W.callWith_K (first := [.ref p]) (h₀ := X.base) I.ok.mod.kin hm.kp (thn ((q1 σ M F1 H1 (bo.mono ex1) (rs.mono ex1) r1).o pos pins s1 I1) fun us s2 got2 => ?_) hst hpl
  obtain ⟨vs, H2, I2, rvs, xs, F2, μ2, ex2, r2, rp, hc⟩ := got2
  refine ⟨I2.kIn, runT (us := .ref p :: us) (vs := .ref p :: vs) (dvs := []) (E := fun cls d H' => ∃ F' μ', Ex F0 F' ∧ Rel X.K μ' M F' H' ∧ E1 cls d Γ μ') Fn (ar.mono hk) bi .nil tk.o (fun cls d H' ⟨F', μ', e1, r1, q⟩ => ⟨Γ, M, F', μ', bo.mono e1, rs.mono e1, r1, q⟩) I2 (.cons rfl rvs) ⟨.loc p :: xs, F2, M, μ2, Q, _, ?_, r2, hc, fun y μ' F' H' v q e1 r1 p1 => ?_, fun cls d μ' F' H' q e1 r1 => ⟨F', μ', (ex1.trans ex2).trans e1, r1, q⟩⟩⟩
  · rw [List.append_nil]; exact .cons (rep_loc.mpr rfl) rp
  · exact ⟨y, F', μ', (ex1.trans ex2).trans e1, r1, p1, q⟩
theorem Ar.tr {X : Cx} {k : Nat} (h : Ar X k) {pn : List (Addr × Obj)} {xe : Value → Shared → Prop} : Ar (X.tr pn xe) k := ⟨h.room, h.show0⟩
end
end D

namespace D
open PySem PySem.Spec PyProof.Rows L2
def gInto (K : PySem.W.Frag) (to : TE) (f : Str) : TG := fun v σ H Q => to σ H fun x H1 => ∃ p C dx fs, x = .ref p ∧ H1 p = some (.ins C dx fs) ∧ Cls K C ∧ NoAttr K C f ∧ fs.length < 1000 ∧ Q σ (upd H1 p (.ins C dx (putF f v fs)))
section
variable {B : Bs} {X : Cx} {Γ : G} {μ : Mu} {Q : A → Mu → Prop} {QG : G → Mu → Prop} {o e : Expr} {es : List Expr} {pos apos p0 : Pos} {m f : Str} {C : Addr} {j k : Nat} {cc : AC} {E1 : XW}
theorem pg_into {to : TE} (ho : PE X o to) : PG X (.Attribute o f apos) (gInto X.K to f) :=
  ⟨fun pins s σ H v u Q I r h => PySem.W.kas_attr (thn (ho.run pins s σ H _ I h) fun w s1 ⟨x, H1, I1, rx, p, C, dx, fs, ex, hp, cl, na, sm, q⟩ => by
    subst ex
    cases rx
    exact setattr_ok I1 hp cl na sm r fun s2 I2 => ⟨σ, _, I2, q⟩)⟩
theorem wG_fld {y : A} (cl : Cls X.K C) (n : NoAttr X.K C f) (h : wE B X o Γ μ fun x μ1 => ∃ p dx fs, x = .loc p ∧ μ1 p = some (.ins C dx fs) ∧ fs.length < 1000 ∧ QG Γ (μ1.upd p (.ins C dx (putL f y fs)))) : wG B X (.Attribute o f apos) y Γ μ QG := fun σ M F H v bo rs rl rp =>
  rd_pg (pg_into pe_rd) ((h σ M F H bo rs rl).imp fun w H1 ⟨x, F1, μ1, e1, r1, p1, p, dx, fs, ex, hp, sm, q⟩ => by
    subst ex; rw [rep_loc] at p1
    obtain ⟨_, ob, g1, ws, rfl, g2⟩ := r1.own p _ hp
    exact ⟨p, C, dx, ws, p1, g1, cl, n, by rw [g2.len]; exact sm, Γ, F1, _, e1, rs.mono e1, r1.write hp (m' := .ins C dx (putL f y fs)) ⟨_, rfl, putL_rep (rp.mono e1) g2⟩, q⟩)
structure CalKX (P : Program) (w : World) (K : PySem.W.Frag) (mg : Str → Option Value) (base : Heap) (k : Nat) (x : Str) (C : Addr) (c : AC) : Prop where
  ex : ∃ (f : Addr) (fd : FuncData) (ps : List Str), FnD P w K mg base (L2.CX P w) k f fd ps c ∧ Mk K C f ∧ mg x = some (.ref C) ∧ Binds K fd ps []
theorem CalKX.up {P : Program} {w : World} {K : PySem.W.Frag} {mg : Str → Option Value} {base : Heap} {x : Str} {c : AC} (D : CalKX P w K mg base j x C c) (h : j ≤ k) : CalKX P w K mg base k x C c := ⟨D.ex.imp fun f => Exists.imp fun fd => Exists.imp fun ps r => ⟨r.1.up h, r.2⟩⟩
theorem make_runX {pins : List (Addr × Obj)} {σ : L2.St} {H M F0 : Hp} {s : Shared} {us : List Value} {vs : List V} {x : Str} {W : WX} {E : Value → Option Addr → Hp → Prop} (Dm : CalKX X.prog X.w X.K X.mg X.base k x C cc) (ar : Ar X j) (hk : k + 1 ≤ j) (tk : Takes X W) (hW : ∀ cls d H', E cls d H' → W cls d σ H') (I : Inv X pins σ H s) (rv : Vals vs us) {xs : List D.A} (rp : RepL X.K F0 xs vs) (rl : Rel X.K μ M F0 H) {E2 : Value → Option Addr → Mu → Prop}
    (h : ∀ p dx, μ p = none → cc (.loc p :: xs) (μ.upd p (.ins C dx [])) (fun v μ' => v = .non ∧ Q (.loc p) μ') E2) (hE : ∀ cls d μ' F' H', E2 cls d μ' → Ex F0 F' → Rel X.K μ' M F' H' → E cls d H') :
    wpAny (model X.prog X.w) X.A (call (.ref C) us) (EP X pins σ (QE X.K M F0 Q)) X.xe s := by
  obtain ⟨fa, fd, ps, Fn, hm, hmg, bi⟩ := Dm.ex
  have ar2 := ar.mono hk
  have I2 := Inv.made (C := C) I
  have n1 : H (s.heap.objs.size + 1) = none := I.hok.fresh (Nat.le_succ _)
  have ne : s.heap.objs.size + 1 ≠ s.heap.objs.size := by omega
  obtain ⟨nμ, rl2⟩ := (rl.grow (ob := .own (s.heap.objs.size + 1)) (I.hok.fresh (Nat.le_refl _))).new (p := s.heap.objs.size + 1) (m := .ins C s.heap.objs.size []) (o := .ins C s.heap.objs.size []) (by rw [upd_ne ne]; exact n1) ⟨[], rfl, rfl⟩
  have all : Vals (V.ref (s.heap.objs.size + 1) :: vs) (Value.ref (s.heap.objs.size + 1) :: us) := .cons rfl rv
  have sp : spOf X.K cc (.ref (s.heap.objs.size + 1) :: vs) _ (fun v H2 => v = .non ∧ QE X.K M F0 Q (.ref (s.heap.objs.size + 1)) H2) E :=
    ⟨.loc (s.heap.objs.size + 1) :: xs, F0, M, _, _, E2, .cons (rep_loc.mpr rfl) rp, rl2, h _ _ nμ, fun y μ' F' H' v q e1 r1 p1 => by
      rw [q.1, rep_non] at p1
      exact ⟨p1, _, F', μ', e1, r1, rep_loc.mpr rfl, q.2⟩, fun cls d μ' F' H' q e1 r1 => hE cls d μ' F' H' q e1 r1⟩
  have hl : (Value.ref (s.heap.objs.size + 1) :: us).length = ps.length := by rw [← all.length]; exact spOf.len Fn.len sp
  have hb := bi _ (Value.ref (s.heap.objs.size + 1) :: us) I2.kIn (by rw [List.append_nil]; exact hl)
  rw [List.append_nil] at hb
  refine wpAny_call (make_map (f := fa) I.kIn hm.makes hm.init (beq_iff_eq.mp hm.fn) (codeAny_mono (Fn.run _ X.stack _ _ ⟨Value.ref (s.heap.objs.size + 1) :: us, []⟩ _ _ _ _ (ar2.room.make C us []) ((under_guards C us []).trans ar.show0) (I2.env0.make C us []) hb all sp) fun r s' hq => ?_))
  match r, hq with
  | .error e2, hq => exact tk e2 s' (XE.of_call I2 hW hq)
  | .ok (.ret u), hq =>
    obtain ⟨v, H', I3, rv', ev, q3⟩ := I2.after hq
    exact ⟨by subst ev; exact rv', ⟨V.ref (s.heap.objs.size + 1), H', I3, rfl, q3⟩⟩
  | .ok .next, hq => exact hq.elim
  | .ok .brk, hq => exact hq.elim
  | .ok .cont, hq => exact hq.elim
theorem wE_makeX {x : Str} (Dm : CalKX X.prog X.w X.K X.mg X.base k x C cc) (ar : Ar X j) (hk : k + 1 ≤ j) (tk : Fly B X E1) (h : wA B X (e :: es) Γ μ fun xs μ1 => ∀ p dx, μ1 p = none → cc (.loc p :: xs) (μ1.upd p (.ins C dx [])) (fun v μ' => v = .non ∧ Q (.loc p) μ') fun cls d μ' => E1 cls d Γ μ') (hg : Gl X x := by rfl) (hdb : (x == ("__debug__" : Str)) = false := by decide)
    (he : starEach (e :: es) X.env = (false, eval e X.env) :: starEach es X.env := by rfl) (hpl : (backTo pos (starEach es X.env)).any (·.1) = false := by rfl) : wE B X (.Call (.Name x p0) (e :: es) [] pos) Γ μ Q := by
  obtain ⟨fa, fd, ps, Fn, hm, hmg, bi⟩ := id Dm.ex
  intro σ M F0 H bo rs rl
  refine ⟨fun pins s I => ?_⟩
  refine wpAny_Call_Name_kw (ld_glob I hg hmg ?_ hdb)
  refine PySem.W.callWith_K (h₀ := X.base) I.ok.mod.kin hm.kp (thn ((h σ M F0 H bo rs rl).o pos pins s I) fun us s1 got => ?_) he hpl
  obtain ⟨vs, H1, I1, rv, xs, F1, μ1, ex, rl1, rp, hc⟩ := got
  exact ⟨I1.kIn, thn (make_runX Dm ar hk tk.o (E := fun cls d H' => ∃ F' μ', Ex F0 F' ∧ Rel X.K μ' M F' H' ∧ E1 cls d Γ μ') (fun cls d H' ⟨F', μ', e1, r1, q⟩ => ⟨Γ, M, F', μ', bo.mono e1, rs.mono e1, r1, q⟩) I1 rv rp rl1 hc fun cls d μ' F' H' q e1 r1 => ⟨F', μ', ex.trans e1, r1, q⟩) fun _ _ ⟨z, H3, I3, r3, q3⟩ => ⟨z, H3, I3, r3, q3.mono ex⟩⟩
end
end D

namespace D
open PySem PySem.Spec PyProof.Rows L2
def topS (i : Nat) : Stmt := PySem.Challenge.pw_slopehouse_k03_programs_refused.main.body.getD i (.Pass ⟨0, 0, 0, 0⟩)
structure Txt (K : PySem.W.Frag) (mg : Str → Option Value) (w : World) (CL CP CTL CTe CPr CPo CNV CTG CCo CS pT : Addr) : Prop where
  b_range : mg "range" = none
  b_len : mg "len" = none
  b_isinstance : mg "isinstance" = none
  b_int : mg "int" = none
  b_bool : mg "bool" = none
  b_str : mg "str" = none
  b_tuple : mg "tuple" = none
  b_list : mg "list" = none
  b_dict : mg "dict" = none
  b_set : mg "set" = none
  b_all : mg "all" = none
  b_abs : mg "abs" = none
  b_sum : mg "sum" = none
  b_repr : mg "repr" = none
  b_enumerate : mg "enumerate" = none
  b_min : mg "min" = none
  b_zip : mg "zip" = none
  b_max : mg "max" = none
  k_LETTERS : Kn K mg "LETTERS" (.str "abcdefghijklmnopqrstuvwxyz")
  k_BARRED : Kn K mg "BARRED" (.tup (BARS.map A.str))
  k_MOST_LETTERS : Kn K mg "MOST_LETTERS" (.int 8)
  k_MOST_POWER : Kn K mg "MOST_POWER" (.int 8)
  k_MOST_TURNS : Kn K mg "MOST_TURNS" (.int 200)
  k_MOST_DEEP : Kn K mg "MOST_DEEP" (.int 3)
  k_MOST_SIZE : Kn K mg "MOST_SIZE" (.int 80)
  k_MOST_INS : Kn K mg "MOST_INS" (.int 6)
  k_MOST_OUTS : Kn K mg "MOST_OUTS" (.int 4)
  k_MOST_PARTS : Kn K mg "MOST_PARTS" (.int 6)
  k_MOST_PART_INS : Kn K mg "MOST_PART_INS" (.int 4)
  k_TAKEN : Kn K mg "TAKEN" (.loc pT)
  d_TAKEN : KDi K w pT TAKENL
  cls_Looked : Cls K CL
  na_Looked_parts : NoAttr K CL "parts"
  na_Looked_many : NoAttr K CL "many"
  cls_Program : Cls K CP
  na_Program_told : NoAttr K CP "told"
  na_Program_many : NoAttr K CP "many"
  na_Program_rows_of_parts : NoAttr K CP "rows_of_parts"
  k_BadText : Kn K mg "BadText" (.loc CTe)
  k_BadProgram : Kn K mg "BadProgram" (.loc CPr)
  k_TooLong : Kn K mg "TooLong" (.loc CTL)
  k_BadPoint : Kn K mg "BadPoint" (.loc CPo)
  k_NoValue : Kn K mg "NoValue" (.loc CNV)
  k_TooGreat : Kn K mg "TooGreat" (.loc CTG)
  k_Corner : Kn K mg "Corner" (.loc CCo)
  x_BadProgram : ExcN K mg "BadProgram" CPr
  i_BadText : PySem.W.kitOne K (.ref CPr) (.ref CTe) = some false
  i_BadProgram : PySem.W.kitOne K (.ref CPr) (.ref CPr) = some true
  i_TooLong : PySem.W.kitOne K (.ref CPr) (.ref CTL) = some false
  i_BadPoint : PySem.W.kitOne K (.ref CPr) (.ref CPo) = some false
  i_NoValue : PySem.W.kitOne K (.ref CPr) (.ref CNV) = some false
  i_TooGreat : PySem.W.kitOne K (.ref CPr) (.ref CTG) = some false
  i_Corner : PySem.W.kitOne K (.ref CPr) (.ref CCo) = some false
  i_ValueError : PySem.W.kitOne K (.ref CPr) (.type "ValueError") = some true
  e_BadProgram : ExcC K CPr
  m_BadProgram : PySem.W.exmOne K (.ref CPr) (.ref CS) = some true
  g_SlopeError : mg "SlopeError" = some (.ref CS)
  b_ValueError : mg "ValueError" = none
end D

set_option pp.maxSteps 300
namespace D
open PySem PySem.Spec PyProof.Rows L2
local macro_rules | `(tactic| walk_at "mul") => `(tactic| first | refine wO_mul (mulR (by first | decide | omega) (by first | decide | omega)) ?_ | refine wO_mul (mulL (by first | decide | omega) (by first | decide | omega)) ?_)
local macro_rules | `(tactic| walk_at "mod") => `(tactic| refine wO_mod (by first | decide | omega) ?_)
local macro_rules | `(tactic| walk_at "fdiv") => `(tactic| refine wO_fdiv (by first | decide | omega) (divS (by first | decide | omega)) ?_)
local macro_rules | `(tactic| walk_at "ix") => `(tactic| first | refine wI_tup (by rfl) ?_ | refine wI_lst (by rfl) ?_)
local macro_rules | `(tactic| walk_at "sl") => `(tactic| first | refine wSl_tup ?_ | refine wSl_lstF ?_)
local macro_rules | `(tactic| walk_at "obj") => `(tactic| refine ⟨_, _, _, rfl, by assumption, rfl, ?_⟩)
local macro_rules | `(tactic| walk_at "len") => `(tactic| first | refine wC_len (.tup _) ?_ | refine wC_len (.lst _) ?_ | refine wC_len (.loc (by assumption)) ?_)
section
variable {P : Program} {w : World} {mg : Str → Option Value} {base : Heap} {K : PySem.W.Frag} {CL CP CTL CTe CPr CPo CNV CTG CCo CS pT : Addr} {k : Nat}
abbrev s_is_whole : Stmt := topS 11
abbrev N_is_whole : List Str := ["thing"]
theorem sc_is_whole : FnScope N_is_whole ["thing"] (defScope s_is_whole) := ⟨rfl, rfl, rfl, by decide +kernel, rfl, by decide +kernel, by decide +kernel⟩
def wholeA : D.A → Bool
  | .int _ => true
  | _ => false
def Kd (μ : Mu) (x : D.A) : Prop := ∃ nm k, tyN μ x = some nm ∧ kitB nm "int" = some k ∧ (k = false → wholeA x = false) ∧ ∃ k2, kitB nm "bool" = some k2 ∧ (k = true → wholeA x = !k2)
def c_is_whole : AC := fun xs μ Q _ => ∃ x : D.A, xs = [x] ∧ Kd μ x ∧ Q (.bl (wholeA x)) μ
theorem ok_is_whole {n : Nat}  {f : Addr} {fd : FuncData} (TX : Txt K mg w CL CP CTL CTe CPr CPo CNV CTG CCo CS pT)  (F : Fun K "is_whole" "is_whole" s_is_whole f fd) : FnD P w K mg base CX0 (n + 1) f fd ["thing"] c_is_whole := by
  refine fnD F sc_is_whole (fun xs μ Q E hc => by obtain ⟨x, rfl, hx, q⟩ := hc; rfl) (fun cdv Ao outer s H E xs μ Q E0 ar hc => ?_)
  obtain ⟨x, rfl, hx, q⟩ := hc
  obtain ⟨nm, k, t1, t2, t3, k2, t4, t5⟩ := hx
  have nd := sc_is_whole.nd
  refine wSs_cons (wS_ret ?_)
  refine wE_and (wE_callB (id := "isinstance") TX.b_isinstance (by decide +kernel) (wA_cons (wE_name 0 rfl (wA_cons (wE_type (n := "int") TX.b_int (by decide +kernel) (wA_nil ?_))))))
  refine wC_isi t1 t2 ?_
  refine ⟨_, rfl, and_flip (fun hk => ?_) (fun hk => ?_)⟩
  · rw [t3 hk] at q; exact q
  rw [t5 hk] at q
  refine wE_one (wE_not (wE_callB (id := "isinstance") TX.b_isinstance (by decide +kernel) (wA_cons (wE_name 0 rfl (wA_cons (wE_type (n := "bool") TX.b_bool (by decide +kernel) (wA_nil ?_)))))))
  refine wC_isi t1 t4 ?_
  refine ⟨_, rfl, ?_⟩
  exact q

abbrev s_common : Stmt := topS 12
abbrev N_common : List Str := ["one", "other"]
theorem sc_common : FnScope N_common ["one", "other"] (defScope s_common) := ⟨rfl, rfl, rfl, by decide +kernel, rfl, by decide +kernel, by decide +kernel⟩
def c_common : AC := fun xs μ Q _ => ∃ a b : Int, xs = [.int a, .int b] ∧ Q (.int (Int.gcd a b : Nat)) μ
theorem ok_common {n : Nat}  {f : Addr} {fd : FuncData} (TX : Txt K mg w CL CP CTL CTe CPr CPo CNV CTG CCo CS pT)  (F : Fun K "common" "common" s_common f fd) : FnD P w K mg base CX0 (n + 1) f fd ["one", "other"] c_common := by
  refine fnD F sc_common (fun xs μ Q E hc => by obtain ⟨a, b, rfl, q⟩ := hc; rfl) (fun cdv Ao outer s H E xs μ Q E0 ar hc => ?_)
  obtain ⟨a, b, rfl, q⟩ := hc
  have nd := sc_common.nd
  refine wSs_cons (wS_par 0 1 (wA_cons (wE_callB (id := "abs") TX.b_abs (by decide +kernel) (wA_cons (wE_name 0 rfl (wA_nil ?_))))) nd)
  refine wC_abs ?_
  refine wA_cons (wE_callB (id := "abs") TX.b_abs (by decide +kernel) (wA_cons (wE_name 1 rfl (wA_nil ?_))))
  refine wC_abs ?_
  refine wA_nil ⟨_, _, rfl, (wSs_cons ?_)⟩
  refine wS_while (fun m Γ' μ' => ∃ x y : Nat, Γ' = [some (.int x), some (.int y)] ∧ μ = μ' ∧ Nat.gcd x y = Int.gcd a b ∧ y ≤ m) b.natAbs ⟨a.natAbs, b.natAbs, ?_, rfl, rfl, Nat.le_refl _⟩ (fun m Γ' μ' hW => ?_)
  · have e1 : (if a < 0 then -a else a) = (a.natAbs : Int) := by split <;> omega
    have e2 : (if b < 0 then -b else b) = (b.natAbs : Int) := by split <;> omega
    rw [e1, e2]; rfl
  obtain ⟨x, y, rfl, rfl, hg, hy⟩ := hW
  refine wT_cmp (wE_name 1 rfl (wE_int ?_))
  refine wO_gt ?_
  refine ⟨_, rfl, ?_⟩
  refine ⟨fun hk => ?_, fun hk => ?_⟩
  have hk2 : (0 : Int) < y := of_decide_eq_true hk
  refine wSs_cons (wS_par 0 1 (wA_cons (wE_name 1 rfl (wA_cons (wE_bin (wE_name 0 rfl (wE_name 1 rfl ?_)))))) nd)
  walk_at "mod"
  refine wA_nil ⟨_, _, rfl, (wSs_nil ?_)⟩
  refine ⟨x % y, Nat.lt_of_lt_of_le (Nat.mod_lt _ (by omega)) hy, y, x % y, rfl, rfl, ?_, Nat.le_refl _⟩
  rw [← hg, Nat.gcd_comm x y, Nat.gcd_rec y x, Nat.gcd_comm]
  have hk2 : ¬ (0 : Int) < y := of_decide_eq_false hk
  obtain rfl : y = 0 := by omega
  rw [Nat.gcd_zero_right] at hg
  refine wSs_cons (wS_ret (wE_name 0 rfl ?_))
  rw [hg]; exact q

abbrev s_is_fraction : Stmt := topS 13
abbrev N_is_fraction : List Str := ["thing"]
theorem sc_is_fraction : FnScope N_is_fraction ["thing"] (defScope s_is_fraction) := ⟨rfl, rfl, rfl, by decide +kernel, rfl, by decide +kernel, by decide +kernel⟩
def isFr : D.A → Bool
  | .tup [.int n, .int d] => decide (0 < d) && decide (Int.gcd n d = 1)
  | _ => false
theorem isFr_not {x : D.A} (h : ∀ n d : Int, x ≠ .tup [.int n, .int d]) : isFr x = false := by
  unfold isFr
  split
  · exact absurd rfl (h _ _)
  · rfl
def FrK (μ : Mu) (x : D.A) : Prop := (∃ nm, tyN μ x = some nm ∧ kitB nm "tuple" = some false ∧ isFr x = false) ∨ ∃ ys, x = .tup ys ∧ ∀ y ∈ ys, Kd μ y
def c_is_fraction : AC := fun xs μ Q _ => ∃ x : D.A, xs = [x] ∧ FrK μ x ∧ Q (.bl (isFr x)) μ
theorem ok_is_fraction {n : Nat}  {f : Addr} {fd : FuncData} (TX : Txt K mg w CL CP CTL CTe CPr CPo CNV CTG CCo CS pT) (C_is_whole : Cal P w K mg base n "is_whole" c_is_whole) (C_common : Cal P w K mg base n "common" c_common) (F : Fun K "is_fraction" "is_fraction" s_is_fraction f fd) : FnD P w K mg base CX0 (n + 1) f fd ["thing"] c_is_fraction := by
  refine fnD F sc_is_fraction (fun xs μ Q E hc => by obtain ⟨x, rfl, hx, q⟩ := hc; rfl) (fun cdv Ao outer s H E xs μ Q E0 ar hc => ?_)
  obtain ⟨x, rfl, hx, q⟩ := hc
  have nd := sc_is_fraction.nd
  refine wSs_cons (wS_if ?_)
  refine wT.imp (QB := fun k μ' => μ = μ' ∧ (k = true → isFr x = false) ∧ (k = false → ∃ n d : Int, x = .tup [.int n, .int d])) ?_ (fun k μ' hq => ?_)
  refine wT_chain (wW_or (wT_not (wT_val (wE_callB (id := "isinstance") TX.b_isinstance (by decide +kernel) (wA_cons (wE_name 0 rfl (wA_cons (wE_type (n := "tuple") TX.b_tuple (by decide +kernel) (wA_nil ?_)))))))))
  have e1 : ∃ nm k, tyN μ x = some nm ∧ kitB nm "tuple" = some k ∧ (k = false → isFr x = false) ∧ (k = true → ∃ ys, x = .tup ys ∧ ∀ y ∈ ys, Kd μ y) := by
    rcases hx with ⟨nm, t1, t2, t3⟩ | ⟨ys, rfl, h⟩
    · exact ⟨nm, false, t1, t2, (fun _ => t3), fun z => nomatch z⟩
    · exact ⟨_, true, rfl, rfl, (fun z => nomatch z), fun _ => ⟨ys, rfl, h⟩⟩
  obtain ⟨nm, k, t1, t2, t3, t4⟩ := e1
  refine wC_isi t1 t2 ?_
  refine ⟨_, rfl, ?_⟩
  refine ⟨fun hk => ?_, fun hk => ?_⟩
  · exact ⟨rfl, fun _ => t3 (by simpa using hk), fun z => nomatch z⟩
  obtain ⟨ys, rfl, hy⟩ := t4 (by simpa using hk)
  refine wW_or (wT_cmp (wE_callB (id := "len") TX.b_len (by decide +kernel) (wA_cons (wE_name 0 rfl (wA_nil ?_)))))
  refine wC_len (.tup _) ?_
  refine wE_int ?_
  refine wO_neI ?_
  refine ⟨_, rfl, ?_⟩
  refine ⟨fun hk => ?_, fun hk => ?_⟩
  · refine ⟨rfl, fun _ => ?_, fun z => nomatch z⟩
    have hk2 : ¬ ((ys.length : Int) = 2) := by simpa using hk
    refine isFr_not fun n d z => ?_
    have z2 := (D.A.tup.injEq _ _).mp z
    rw [z2] at hk2
    exact hk2 rfl
  obtain ⟨u, v, rfl⟩ : ∃ u v, ys = [u, v] := by
    have hk2 : (ys.length : Int) = 2 := by simpa using hk
    have h2 : ys.length = 2 := by omega
    rcases ys with _ | ⟨u, _ | ⟨v, _ | ⟨_, _⟩⟩⟩ <;> simp at h2
    exact ⟨u, v, rfl⟩
  refine wW_or (wT_not (wT_val (wE_cal C_is_whole ar (by omega) (wA_cons (wE_ix (wE_name 0 rfl (wE_int ?_)))))))
  walk_at "ix"
  refine wA_nil ?_
  refine ⟨u, rfl, hy u (by simp), ?_⟩
  refine ⟨_, rfl, ?_⟩
  refine ⟨fun hk => ?_, fun hk => ?_⟩
  · refine ⟨rfl, fun _ => ?_, fun z => nomatch z⟩
    have hk2 : wholeA u = false := by simpa using hk
    refine isFr_not fun n d z => ?_
    simp only [D.A.tup.injEq, List.cons.injEq] at z
    rw [z.1] at hk2
    simp [wholeA] at hk2
  obtain ⟨n, rfl⟩ : ∃ n, u = .int n := by
    have hk2 : wholeA u = true := by simpa using hk
    cases u with
    | int n => exact ⟨n, rfl⟩
    | _ => simp [wholeA] at hk2
  refine wW_or1 (wT_not (wT_val (wE_cal C_is_whole ar (by omega) (wA_cons (wE_ix (wE_name 0 rfl (wE_int ?_)))))))
  walk_at "ix"
  refine wA_nil ?_
  refine ⟨v, rfl, hy v (by simp), ?_⟩
  refine ⟨_, rfl, ?_⟩
  refine ⟨rfl, fun z => ?_, fun z => ?_⟩
  · have hk2 : wholeA v = false := by simpa using z
    refine isFr_not fun n d z => ?_
    simp only [D.A.tup.injEq, List.cons.injEq] at z
    rw [z.2.1] at hk2
    simp [wholeA] at hk2
  · have hk2 : wholeA v = true := by simpa using z
    cases v with
    | int d => exact ⟨n, d, rfl⟩
    | _ => simp [wholeA] at hk2
  obtain ⟨rfl, g1, g2⟩ := hq
  refine ⟨fun hk => ?_, fun hk => ?_⟩
  refine wSs_cons (wS_ret (wE_bl ?_))
  rw [g1 hk] at q; exact q
  obtain ⟨n, d, rfl⟩ := g2 hk
  refine wSs_nil ?_
  refine wSs_cons (wS_ret ?_)
  refine wE_and (wE_cmp (wE_ix (wE_name 0 rfl (wE_int ?_))))
  walk_at "ix"
  refine wE_int ?_
  refine wO_gt ?_
  refine ⟨_, rfl, and_flip (fun hk => ?_) (fun hk => ?_)⟩
  · have e : isFr (.tup [.int n, .int d]) = false := by simp only [isFr, hk, Bool.false_and]
    rw [e] at q; exact q
  have e : isFr (.tup [.int n, .int d]) = decide ((Int.gcd n d : Int) = 1) := by
    simp only [isFr, hk, Bool.true_and]
    exact decide_eq_decide.mpr (by omega)
  rw [e] at q
  refine wE_one (wE_cmp (wE_cal C_common ar (by omega) (wA_cons (wE_ix (wE_name 0 rfl (wE_int ?_))))))
  walk_at "ix"
  refine wA_cons (wE_ix (wE_name 0 rfl (wE_int ?_)))
  walk_at "ix"
  refine wA_nil ?_
  refine ⟨n, d, rfl, ?_⟩
  refine wE_int ?_
  refine wO_eqI ?_
  exact q

abbrev s_is_name : Stmt := topS 27
abbrev N_is_name : List Str := ["thing", "sign"]
theorem sc_is_name : FnScope N_is_name ["thing"] (defScope s_is_name) := ⟨rfl, rfl, rfl, by decide +kernel, rfl, by decide +kernel, by decide +kernel⟩
theorem split_bars : Txt.split "in out part give call repeat end plus less times over power most least size pick copy" " " = BARS := by decide +kernel
def c_is_name : AC := fun xs μ Q _ => ∃ (x : D.A) (nm : String) (k : Bool), xs = [x] ∧ tyN μ x = some nm ∧ kitB nm "str" = some k ∧ (k = true → ∃ w, x = .str w ∧ w.length ≤ 1000) ∧ (k = false → isNm x = false) ∧ Q (.bl (isNm x)) μ
theorem ok_is_name {n : Nat}  {f : Addr} {fd : FuncData} (TX : Txt K mg w CL CP CTL CTe CPr CPo CNV CTG CCo CS pT)  (F : Fun K "is_name" "is_name" s_is_name f fd) : FnD P w K mg base CX0 (n + 1) f fd ["thing"] c_is_name := by
  refine fnD F sc_is_name (fun xs μ Q E hc => by obtain ⟨x, nm, k, rfl, t1, t2, t3, t4, q⟩ := hc; rfl) (fun cdv Ao outer s H E xs μ Q E0 ar hc => ?_)
  obtain ⟨x, nm, k, rfl, t1, t2, t3, t4, q⟩ := hc
  have nd := sc_is_name.nd
  refine wSs_cons (wS_if ?_)
  refine wT.imp (QB := fun k' μ' => μ = μ' ∧ (k' = true → isNm x = false) ∧ (k' = false → ∃ w, x = .str w ∧ w.length ≤ 1000 ∧ isNm x = letA w)) ?_ (fun k μ' hq => ?_)
  refine wT_chain (wW_or (wT_not (wT_val (wE_callB (id := "isinstance") TX.b_isinstance (by decide +kernel) (wA_cons (wE_name 0 rfl (wA_cons (wE_type (n := "str") TX.b_str (by decide +kernel) (wA_nil ?_)))))))))
  refine wC_isi t1 t2 ?_
  refine ⟨_, rfl, ?_⟩
  refine ⟨fun hk => ?_, fun hk => ?_⟩
  · exact ⟨rfl, fun _ => t4 (by simpa using hk), fun z => nomatch z⟩
  obtain ⟨w, rfl, hw⟩ := t3 (by simpa using hk)
  refine wW_or (wT_not (wT_chain2 (wE_int (wE_callB (id := "len") TX.b_len (by decide +kernel) (wA_cons (wE_name 0 rfl (wA_nil ?_)))))))
  refine wC_lenS (szOk (by omega)) ?_
  refine wO_le ?_
  refine ⟨_, rfl, and_flip (fun hk => ?_) (fun hk => ?_)⟩
  · exact ⟨fun _ => ⟨rfl, fun _ => by simp only [isNm]; rw [hk]; rfl, fun z => nomatch z⟩, fun z => nomatch z⟩
  have h1 := hk
  refine wE_glob TX.k_MOST_LETTERS ?_
  refine wO_le ?_
  refine ⟨_, rfl, ?_⟩
  refine ⟨fun hk => ?_, fun hk => ?_⟩
  · have h2 : decide ((w.length : Int) ≤ 8) = false := by simpa using hk
    exact ⟨rfl, fun _ => by simp only [isNm]; rw [h1, h2]; rfl, fun z => nomatch z⟩
  have h2 : decide ((w.length : Int) ≤ 8) = true := by simpa using hk
  refine wW_or1 (wT_cmp (wE_name 0 rfl (wE_glob TX.k_BARRED ?_)))
  refine wO_in (.tup _) rfl (by rfl) ?_
  refine ⟨_, rfl, ?_⟩
  refine ⟨rfl, fun z => ?_, fun z => ⟨w, rfl, hw, ?_⟩⟩
  · simp only [isNm]; rw [h1, h2, z]; rfl
  · simp only [isNm]; rw [h1, h2, z]; rfl
  obtain ⟨rfl, g1, g2⟩ := hq
  refine ⟨fun hk => ?_, fun hk => ?_⟩
  refine wSs_cons (wS_ret (wE_bl ?_))
  rw [g1 hk] at q; exact q
  obtain ⟨w, rfl, hw, e⟩ := g2 hk
  rw [e] at q
  refine wSs_nil ?_
  refine wSs_cons (wS_ret (wE_callB (id := "all") TX.b_all (by decide +kernel) (wA_cons (wE_lcF (own := [("sign", 1)]) (wIt_str (wE_name 0 rfl ⟨_, rfl, ?_⟩)) nd (blkOk_by (N := N_is_name) (sc := defScope s_is_name) (by decide +kernel))))))
  refine ⟨szOk (by simp only [signsA, List.length_map]; show w.cps.toList.length ≤ _; rw [Array.length_toList]; exact Nat.le_trans hw (by decide)), (w.cps.toList.map fun ch => decide (ch ∈ LETS.cps.toList)).map D.A.bl, by simp [signsA], fun j y z hy hz s0 H0 C cl fp => ?_, ?_⟩
  obtain ⟨ch, h3, rfl⟩ := map_at hy
  obtain ⟨bz, h4, rfl⟩ := map_at hz
  obtain ⟨ch2, h5, rfl⟩ := map_at h4
  obtain rfl : ch = ch2 := Option.some.inj (h3.symm.trans h5)
  refine wGw_name 1 (⟨rfl, fun s0 H0 C cl fp => (wE_cmp (wE_name 1 rfl (wE_glob TX.k_LETTERS ?_)))⟩) nd
  refine wO_inSign ?_
  refine ⟨?_, .refl _⟩
  rfl
  refine wA_nil ?_
  refine wC_all rfl (.lst _) ?_
  rw [show ((w.cps.toList.map fun ch => decide (ch ∈ LETS.cps.toList)).all id) = letA w by unfold letA; rw [List.all_map]; rfl]
  exact q

end
end D

set_option pp.maxSteps 5000
namespace D
open PySem PySem.Spec PyProof.Rows L2
def isStrA : A → Bool
  | .str _ => true
  | _ => false
def tagA (t : Str) : A → Bool
  | .str w => decide (w = t)
  | _ => false
def wdO : A → Str
  | .str w => w
  | _ => ""
def amongA (lo hi : Int) : A → Bool
  | .int i => decide (lo ≤ i) && decide (i ≤ hi)
  | _ => false
def thingA (T : List Str) : A → Bool
  | .str w => decide (w ∈ T)
  | x => isFr x
def tupOf : A → List A
  | .tup xs => xs
  | _ => []
def isTupA : A → Bool
  | .tup _ => true
  | _ => false
def namesA (most : Int) (x : A) : Bool := isTupA x && decide (1 ≤ (tupOf x).length) && decide (((tupOf x).length : Int) ≤ most) && (tupOf x).all isNm
def wordsA (x : A) : List Str := (tupOf x).map wdO
def callA (Pn : List (Str × Int)) (T : List Str) : List A → Bool
  | .str c :: r => decide (valI Pn c = some (r.length : Int)) && r.all (thingA T)
  | _ => false
def powA (T : List Str) (xs : List A) : Bool := thingA T (xs.getD 0 .non) && amongA (-8) 8 (xs.getD 1 .non)
def doingW (Pn : List (Str × Int)) (T : List Str) (w : Str) (xs : List A) : Bool :=
  if w = "call" then callA Pn T xs
  else if valI TAKENL w = some (xs.length : Int) then (if w = "power" then powA T xs else xs.all (thingA T))
  else false
def doingA (Pn : List (Str × Int)) (T : List Str) (w ts : A) : Bool := isStrA w && isTupA ts && doingW Pn T (wdO w) (tupOf ts)
abbrev St := List Str × Nat
def allWith (f : A → St → Bool × St) : List A → St → Bool × St
  | [], s => (true, s)
  | x :: xs, s => ((f x s).1 && (allWith f xs (f x s).2).1, (allWith f xs (f x s).2).2)
def bodyW (f : A → St → Bool × St) (x : A) (s : St) : Bool × St := if isTupA x = true then allWith f (tupOf x) s else (false, s)
def rowA (Pn : List (Str × Int)) (s : St) (x w ts : A) : Bool × St :=
  if isNm x = true ∧ doingA Pn s.1 w ts = true then (true, (insT s.1 (wdO x), s.2)) else (false, s)
def itemW (Pn : List (Str × Int)) (rec : Option (A → St → Bool × St)) (x : A) (s : St) : Bool × St :=
  if tupOf x = [] then (false, s)
  else if 80 < s.2 + 1 then (false, (s.1, s.2 + 1))
  else if tagA "repeat" ((tupOf x).getD 0 .non) = true ∧ (tupOf x).length = 3 then
    (if amongA 1 200 ((tupOf x).getD 1 .non) = true then (match rec with
      | none => (false, (s.1, s.2 + 1))
      | some g => g ((tupOf x).getD 2 .non) (s.1, s.2 + 1)) else (false, (s.1, s.2 + 1)))
  else if tagA "row" ((tupOf x).getD 0 .non) = true ∧ (tupOf x).length = 4 then rowA Pn (s.1, s.2 + 1) ((tupOf x).getD 1 .non) ((tupOf x).getD 2 .non) ((tupOf x).getD 3 .non)
  else (false, (s.1, s.2 + 1))
def itemA (Pn : List (Str × Int)) : Nat → A → St → Bool × St
  | 0 => itemW Pn none
  | k + 1 => itemW Pn (some (bodyW (itemA Pn k)))
def bodyA (Pn : List (Str × Int)) (k : Nat) : A → St → Bool × St := bodyW (itemA Pn k)
abbrev Sp := List (Str × Int) × Nat
def headA (Pn : List (Str × Int)) (x : A) : Bool := isTupA x && decide ((tupOf x).length = 4) && isNm ((tupOf x).getD 0 .non) && (valI Pn (wdO ((tupOf x).getD 0 .non))).isNone
def rowsA (most : Int) (x : A) : Bool := namesA most x && decide ((wordsA x).Nodup)
def partA (x : A) (s : Sp) : Bool × Sp :=
  if headA s.1 x = true ∧ rowsA 4 ((tupOf x).getD 1 .non) = true then
    (if 80 < s.2 + (2 + (wordsA ((tupOf x).getD 1 .non)).length) then (false, (s.1, s.2 + (2 + (wordsA ((tupOf x).getD 1 .non)).length)))
    else (if ((bodyA s.1 3 ((tupOf x).getD 2 .non) (wordsA ((tupOf x).getD 1 .non), s.2 + (2 + (wordsA ((tupOf x).getD 1 .non)).length))).1 = true ∧ isStrA ((tupOf x).getD 3 .non) = true ∧ wdO ((tupOf x).getD 3 .non) ∈ (bodyA s.1 3 ((tupOf x).getD 2 .non) (wordsA ((tupOf x).getD 1 .non), s.2 + (2 + (wordsA ((tupOf x).getD 1 .non)).length))).2.1)
      then (true, (s.1 ++ [(wdO ((tupOf x).getD 0 .non), ((wordsA ((tupOf x).getD 1 .non)).length : Int))], (bodyA s.1 3 ((tupOf x).getD 2 .non) (wordsA ((tupOf x).getD 1 .non), s.2 + (2 + (wordsA ((tupOf x).getD 1 .non)).length))).2.2))
      else (false, (s.1, (bodyA s.1 3 ((tupOf x).getD 2 .non) (wordsA ((tupOf x).getD 1 .non), s.2 + (2 + (wordsA ((tupOf x).getD 1 .non)).length))).2.2))))
  else (false, s)
def partsA : List A → Sp → Bool × Sp
  | [], s => (true, s)
  | x :: xs, s => ((partA x s).1 && (partsA xs (partA x s).2).1, (partsA xs (partA x s).2).2)
def progA (x : A) : Bool :=
  isTupA x && decide ((tupOf x).length = 4) && isTupA ((tupOf x).getD 0 .non) && decide ((tupOf ((tupOf x).getD 0 .non)).length ≤ 6) &&
  (partsA (tupOf ((tupOf x).getD 0 .non)) ([], 0)).1 && rowsA 6 ((tupOf x).getD 1 .non) &&
  decide ((partsA (tupOf ((tupOf x).getD 0 .non)) ([], 0)).2.2 + (wordsA ((tupOf x).getD 1 .non)).length ≤ 80) &&
  (bodyA (partsA (tupOf ((tupOf x).getD 0 .non)) ([], 0)).2.1 3 ((tupOf x).getD 2 .non) (wordsA ((tupOf x).getD 1 .non), (partsA (tupOf ((tupOf x).getD 0 .non)) ([], 0)).2.2 + (wordsA ((tupOf x).getD 1 .non)).length)).1 &&
  namesA 4 ((tupOf x).getD 3 .non) &&
  decide ((bodyA (partsA (tupOf ((tupOf x).getD 0 .non)) ([], 0)).2.1 3 ((tupOf x).getD 2 .non) (wordsA ((tupOf x).getD 1 .non), (partsA (tupOf ((tupOf x).getD 0 .non)) ([], 0)).2.2 + (wordsA ((tupOf x).getD 1 .non)).length)).2.2 + (wordsA ((tupOf x).getD 3 .non)).length ≤ 80) &&
  (wordsA ((tupOf x).getD 3 .non)).all fun w => decide (w ∈ (bodyA (partsA (tupOf ((tupOf x).getD 0 .non)) ([], 0)).2.1 3 ((tupOf x).getD 2 .non) (wordsA ((tupOf x).getD 1 .non), (partsA (tupOf ((tupOf x).getD 0 .non)) ([], 0)).2.2 + (wordsA ((tupOf x).getD 1 .non)).length)).2.1)
def LTAKE : List (Str × Int) := [("plus", 2), ("less", 2), ("times", 2), ("over", 2), ("most", 2), ("least", 2), ("size", 1), ("pick", 3), ("copy", 1)]
def callL (Cn : List (Str × Int)) (T : List Str) : List A → Bool
  | .str c :: r => decide ((valI Cn c).getD 9 = (r.length : Int)) && r.all (thingA T)
  | _ => false
def doingL (Cn : List (Str × Int)) (T : List Str) (w ts : A) : Bool :=
  isStrA w && isTupA ts && (if wdO w = "power" then decide ((tupOf ts).length = 2) && powA T (tupOf ts)
    else if wdO w = "call" then callL Cn T (tupOf ts)
    else decide ((valI LTAKE (wdO w)).getD 9 = ((tupOf ts).length : Int)) && (tupOf ts).all (thingA T))
def stepL (Cn : List (Str × Int)) (rec : Option (A → List Str → Nat × List Str)) (x : A) (T : List Str) : Option (Nat × List Str) :=
  if isStrA ((tupOf x).getD 0 .non) = true then
    (if tagA "repeat" ((tupOf x).getD 0 .non) = true ∧ (tupOf x).length = 3 then
      (if amongA 1 200 ((tupOf x).getD 1 .non) = true then rec.map (fun g => (1 + (g ((tupOf x).getD 2 .non) T).1, (g ((tupOf x).getD 2 .non) T).2)) else none)
    else if tagA "row" ((tupOf x).getD 0 .non) = true ∧ (tupOf x).length = 4 ∧ isNm ((tupOf x).getD 1 .non) = true ∧ doingL Cn T ((tupOf x).getD 2 .non) ((tupOf x).getD 3 .non) = true then some (1, T ++ [wdO ((tupOf x).getD 1 .non)])
    else none)
  else none
def goL (Cn : List (Str × Int)) (rec : Option (A → List Str → Nat × List Str)) : List A → Nat → List Str → Nat × List Str
  | [], n, T => (n, T)
  | x :: xs, n, T => match stepL Cn rec x T with
    | none => (1000, T)
    | some q => goL Cn rec xs (n + q.1) q.2
def bodyLW (f : List A → Nat → List Str → Nat × List Str) (x : A) (T : List Str) : Nat × List Str := if isTupA x = true then f (tupOf x) 0 T else (1000, T)
def goLk (Cn : List (Str × Int)) : Nat → List A → Nat → List Str → Nat × List Str
  | 0 => goL Cn none
  | k + 1 => goL Cn (some (bodyLW (goLk Cn k)))
def bodyL (Cn : List (Str × Int)) (k : Nat) : A → List Str → Nat × List Str := bodyLW (goLk Cn k)
def partL (x : A) (Cn : List (Str × Int)) : Nat × List (Str × Int) :=
  if headA Cn x = true ∧ rowsA 4 ((tupOf x).getD 1 .non) = true then
    (if isStrA ((tupOf x).getD 3 .non) = true ∧ wdO ((tupOf x).getD 3 .non) ∈ (bodyL Cn 3 ((tupOf x).getD 2 .non) (wordsA ((tupOf x).getD 1 .non))).2 then 2 + (wordsA ((tupOf x).getD 1 .non)).length + (bodyL Cn 3 ((tupOf x).getD 2 .non) (wordsA ((tupOf x).getD 1 .non))).1 else 1000, Cn ++ [(wdO ((tupOf x).getD 0 .non), ((wordsA ((tupOf x).getD 1 .non)).length : Int))])
  else (1000, Cn)
def partsL : List A → List (Str × Int) → Nat × List (Str × Int)
  | [], Cn => (0, Cn)
  | x :: xs, Cn => ((partL x Cn).1 + (partsL xs (partL x Cn).2).1, (partsL xs (partL x Cn).2).2)
def progL (x : A) : Bool :=
  isTupA x && decide ((tupOf x).length = 4) && isTupA ((tupOf x).getD 0 .non) && decide ((tupOf ((tupOf x).getD 0 .non)).length ≤ 6) &&
  decide ((partsL (tupOf ((tupOf x).getD 0 .non)) []).1 ≤ 80) && rowsA 6 ((tupOf x).getD 1 .non) &&
  decide ((partsL (tupOf ((tupOf x).getD 0 .non)) []).1 + (wordsA ((tupOf x).getD 1 .non)).length + (bodyL (partsL (tupOf ((tupOf x).getD 0 .non)) []).2 3 ((tupOf x).getD 2 .non) (wordsA ((tupOf x).getD 1 .non))).1 ≤ 80) &&
  namesA 4 ((tupOf x).getD 3 .non) &&
  decide ((partsL (tupOf ((tupOf x).getD 0 .non)) []).1 + (wordsA ((tupOf x).getD 1 .non)).length + (bodyL (partsL (tupOf ((tupOf x).getD 0 .non)) []).2 3 ((tupOf x).getD 2 .non) (wordsA ((tupOf x).getD 1 .non))).1 + (wordsA ((tupOf x).getD 3 .non)).length ≤ 80) &&
  (wordsA ((tupOf x).getD 3 .non)).all fun w => decide (w ∈ (bodyL (partsL (tupOf ((tupOf x).getD 0 .non)) []).2 3 ((tupOf x).getD 2 .non) (wordsA ((tupOf x).getD 1 .non))).2)
mutual
def shA (n : Nat) : A → Prop
  | .tup xs => shs n xs
  | _ => True
def shs (n : Nat) : List A → Prop
  | [] => True
  | x :: xs => ((tupOf x).length ≤ n ∧ shA n x) ∧ shs n xs
end
theorem shs_mem {n : Nat} : ∀ {xs : List A}, shs n xs → ∀ x ∈ xs, (tupOf x).length ≤ n ∧ shA n x
  | y :: xs, h, x, hx => by
    simp only [shs] at h
    rcases List.mem_cons.mp hx with rfl | hx
    · exact h.1
    · exact shs_mem h.2 x hx
theorem shs_of {n : Nat} : ∀ {xs : List A}, (∀ x ∈ xs, (tupOf x).length ≤ n ∧ shA n x) → shs n xs
  | [], _ => trivial
  | y :: xs, h => by simp only [shs]; exact ⟨h y (.head _), shs_of fun x hx => h x (.tail _ hx)⟩
theorem sh_tup {n : Nat} {x : A} (h : shA n x) : ∀ y ∈ tupOf x, (tupOf y).length ≤ n ∧ shA n y := by
  cases x with
  | tup xs => simp only [shA] at h; exact shs_mem h
  | _ => exact fun y hy => nomatch hy
theorem sh_get {n : Nat} {x : A} (h : shA n x) (i : Nat) : (tupOf ((tupOf x).getD i .non)).length ≤ n ∧ shA n ((tupOf x).getD i .non) := by
  rw [List.getD_eq_getElem?_getD]
  cases e : (tupOf x)[i]? with
  | none => exact ⟨Nat.zero_le _, trivial⟩
  | some y => exact sh_tup h y (List.mem_of_getElem? e)
theorem take_same {w : Str} (h : w ≠ "power") : valI LTAKE w = valI TAKENL w := by
  unfold valI LTAKE TAKENL
  have e : ¬ (("power" : Str) = w) := fun z => h z.symm
  simp only [List.find?_cons, e, decide_false]
theorem doing_same {Pn : List (Str × Int)} {T TL : List Str} {w ts : A} (s : ∀ v, v ∈ T ↔ v ∈ TL) (h : (tupOf ts).length ≤ 8) : doingL Pn TL w ts = doingA Pn T w ts := by
  have th : thingA TL = thingA T := by
    funext x
    unfold thingA
    split
    · simp only [s]
    · rfl
  unfold doingL doingA
  by_cases e1 : isStrA w = true
  · by_cases e2 : isTupA ts = true
    · rw [e1, e2, Bool.true_and, Bool.true_and, Bool.true_and]
      unfold doingW
      have tp : valI TAKENL "power" = some 2 := by decide +kernel
      by_cases p : wdO w = "power"
      · rw [if_pos p, p, if_neg (by decide +kernel), tp, if_pos rfl, powA, powA, th]
        by_cases l : (tupOf ts).length = 2
        · rw [if_pos (by rw [l]; rfl), decide_eq_true l, Bool.true_and]
        · rw [if_neg (fun z => l (by have := Option.some.inj z; omega)), decide_eq_false l, Bool.false_and]
      · rw [if_neg p, if_neg p, take_same p]
        by_cases c : wdO w = "call"
        · rw [if_pos c, if_pos c]
          cases ex : tupOf ts with
          | nil => rfl
          | cons x r =>
            rw [ex, List.length_cons] at h
            unfold callL callA
            split
            · rename_i c2 r2 e2
              injection e2 with e3 e4
              subst e3 e4
              rw [th]
              congr 1
              cases valI Pn c2 with
              | none =>
                rw [decide_eq_decide]
                exact ⟨fun z => by simp at z; omega, fun z => by cases z⟩
              | some v =>
                rw [decide_eq_decide]
                exact ⟨fun z => by simpa using z, fun z => by simpa using z⟩
            · rfl
        · rw [if_neg c, if_neg c, th]
          cases valI TAKENL (wdO w) with
          | none =>
            rw [if_neg (fun z => by cases z), decide_eq_false (by simp; omega), Bool.false_and]
          | some v =>
            by_cases ev : v = ((tupOf ts).length : Int)
            · rw [ev, if_pos rfl]; simp
            · rw [if_neg (fun z => ev (Option.some.inj z)), decide_eq_false (by simpa using ev), Bool.false_and]
    · rw [(Bool.not_eq_true _).mp e2, Bool.and_false, Bool.false_and, Bool.false_and]
  · rw [(Bool.not_eq_true _).mp e1, Bool.false_and, Bool.false_and, Bool.false_and]
end D

set_option pp.maxSteps 300
namespace D
open PySem PySem.Spec PyProof.Rows L2
section
variable {Pn : List (Str × Int)}
theorem goL_none {Cn : List (Str × Int)} {rec : Option (A → List Str → Nat × List Str)} {x : A} {T : List Str} (e : stepL Cn rec x T = none) (xs : List A) (n : Nat) : goL Cn rec (x :: xs) n T = (1000, T) := by rw [goL, e]
theorem goL_some {Cn : List (Str × Int)} {rec : Option (A → List Str → Nat × List Str)} {x : A} {T : List Str} {q : Nat × List Str} (e : stepL Cn rec x T = some q) (xs : List A) (n : Nat) : goL Cn rec (x :: xs) n T = goL Cn rec xs (n + q.1) q.2 := by rw [goL, e]
theorem goL_ge {Cn : List (Str × Int)} {rec : Option (A → List Str → Nat × List Str)} : ∀ (xs : List A) (n : Nat) (T : List Str), n ≤ (goL Cn rec xs n T).1 ∨ 1000 ≤ (goL Cn rec xs n T).1
  | [], n, T => .inl (Nat.le_refl _)
  | x :: xs, n, T => by
    cases e : stepL Cn rec x T with
    | none => rw [goL_none e]; exact .inr (Nat.le_refl _)
    | some q =>
      rw [goL_some e]
      rcases goL_ge (Cn := Cn) (rec := rec) xs (n + q.1) q.2 with h | h
      · exact .inl (by omega)
      · exact .inr h
theorem step_one {Cn : List (Str × Int)} {rec : Option (A → List Str → Nat × List Str)} {x : A} {T : List Str} {q : Nat × List Str} (e : stepL Cn rec x T = some q) : 1 ≤ q.1 := by
  unfold stepL at e
  split at e
  · split at e
    · split at e
      · cases rec with
        | none => cases e
        | some g =>
          obtain rfl := Option.some.inj e
          show 1 ≤ 1 + _
          omega
      · cases e
    · split at e
      · obtain rfl := Option.some.inj e
        exact Nat.le_refl 1
      · cases e
  · cases e
theorem tag_str {t : Str} {h : A} (e : tagA t h = true) : h = .str t := by
  cases h with
  | str w => rw [of_decide_eq_true e]
  | _ => cases e
theorem tag_two {h : A} (e : tagA "repeat" h = true) : tagA "row" h = false := by rw [tag_str e]; decide +kernel
theorem same_ins {T TL : List Str} (s : ∀ v, v ∈ T ↔ v ∈ TL) (w : Str) : ∀ v, v ∈ insT T w ↔ v ∈ TL ++ [w] := fun v => by rw [mem_insT, List.mem_append, List.mem_singleton, s v]
def GoSame (Pn : List (Str × Int)) (f : A → St → Bool × St) (rec : Option (A → List Str → Nat × List Str)) (xs : List A) : Prop :=
  ∀ (m0 n : Nat) (T TL : List Str), m0 + n ≤ 80 → (∀ v, v ∈ T ↔ v ∈ TL) → ((allWith f xs (T, m0 + n)).1 = true ↔ m0 + (goL Pn rec xs n TL).1 ≤ 80) ∧
    ((allWith f xs (T, m0 + n)).1 = true → (allWith f xs (T, m0 + n)).2.2 = m0 + (goL Pn rec xs n TL).1 ∧ ∀ v, v ∈ (allWith f xs (T, m0 + n)).2.1 ↔ v ∈ (goL Pn rec xs n TL).2)
def RecSame (g : A → St → Bool × St) (g' : A → List Str → Nat × List Str) : Prop := ∀ (y : A), shA 8 y → ∀ (m : Nat) (T TL : List Str), m ≤ 80 → (∀ v, v ∈ T ↔ v ∈ TL) → ((g y (T, m)).1 = true ↔ m + (g' y TL).1 ≤ 80) ∧ ((g y (T, m)).1 = true → (g y (T, m)).2.2 = m + (g' y TL).1 ∧ ∀ v, v ∈ (g y (T, m)).2.1 ↔ v ∈ (g' y TL).2)
theorem both_no {m0 : Nat} {b : Bool} {P : Prop} (h : b = false) : (b = true ↔ m0 + 1000 ≤ 80) ∧ (b = true → P) := by
  subst h
  exact ⟨⟨(fun z => nomatch z), (fun z => by omega)⟩, (fun z => nomatch z)⟩
theorem go_same {rec : Option (A → St → Bool × St)} {recL : Option (A → List Str → Nat × List Str)} (hr : (rec = none ∧ recL = none) ∨ ∃ g g', rec = some g ∧ recL = some g' ∧ RecSame g g') : ∀ (xs : List A), shs 8 xs → GoSame Pn (itemW Pn rec) recL xs
  | [], _, m0, n, T, TL, hm, s => ⟨⟨fun _ => hm, fun _ => rfl⟩, fun _ => ⟨rfl, s⟩⟩
  | x :: xs, hs, m0, n, T, TL, hm, s => by
    simp only [shs] at hs
    have hsx := sh_get hs.1.2
    have ih := go_same hr xs hs.2
    have big : ∀ {q : Nat × List Str}, 80 < m0 + n + q.1 → ¬ (m0 + (goL Pn recL xs (n + q.1) q.2).1 ≤ 80) := fun {q} h z => by
      rcases goL_ge (Cn := Pn) (rec := recL) xs (n + q.1) q.2 with h2 | h2 <;> omega
    have no : (itemW Pn rec x (T, m0 + n)).1 = false → stepL Pn recL x TL = none → ((allWith (itemW Pn rec) (x :: xs) (T, m0 + n)).1 = true ↔ m0 + (goL Pn recL (x :: xs) n TL).1 ≤ 80) ∧
        ((allWith (itemW Pn rec) (x :: xs) (T, m0 + n)).1 = true → (allWith (itemW Pn rec) (x :: xs) (T, m0 + n)).2.2 = m0 + (goL Pn recL (x :: xs) n TL).1 ∧ ∀ v, v ∈ (allWith (itemW Pn rec) (x :: xs) (T, m0 + n)).2.1 ↔ v ∈ (goL Pn recL (x :: xs) n TL).2) := fun e1 e2 => by
      rw [goL_none e2]
      refine both_no ?_
      simp only [allWith, e1, Bool.false_and]
    have wide : (itemW Pn rec x (T, m0 + n)).1 = false → (∀ q, stepL Pn recL x TL = some q → 80 < m0 + n + q.1) → ((allWith (itemW Pn rec) (x :: xs) (T, m0 + n)).1 = true ↔ m0 + (goL Pn recL (x :: xs) n TL).1 ≤ 80) ∧
        ((allWith (itemW Pn rec) (x :: xs) (T, m0 + n)).1 = true → (allWith (itemW Pn rec) (x :: xs) (T, m0 + n)).2.2 = m0 + (goL Pn recL (x :: xs) n TL).1 ∧ ∀ v, v ∈ (allWith (itemW Pn rec) (x :: xs) (T, m0 + n)).2.1 ↔ v ∈ (goL Pn recL (x :: xs) n TL).2) := fun e1 e2 => by
      cases e : stepL Pn recL x TL with
      | none => exact no e1 e
      | some q =>
        rw [goL_some e]
        have := big (e2 q e)
        refine ⟨⟨fun z => ?_, fun z => absurd z this⟩, fun z => ?_⟩
        · simp only [allWith, e1, Bool.false_and] at z; cases z
        · simp only [allWith, e1, Bool.false_and] at z; cases z
    have on : ∀ {T2 : List Str} {q : Nat × List Str}, itemW Pn rec x (T, m0 + n) = (true, (T2, m0 + (n + q.1))) → stepL Pn recL x TL = some q → m0 + (n + q.1) ≤ 80 → (∀ v, v ∈ T2 ↔ v ∈ q.2) → ((allWith (itemW Pn rec) (x :: xs) (T, m0 + n)).1 = true ↔ m0 + (goL Pn recL (x :: xs) n TL).1 ≤ 80) ∧
        ((allWith (itemW Pn rec) (x :: xs) (T, m0 + n)).1 = true → (allWith (itemW Pn rec) (x :: xs) (T, m0 + n)).2.2 = m0 + (goL Pn recL (x :: xs) n TL).1 ∧ ∀ v, v ∈ (allWith (itemW Pn rec) (x :: xs) (T, m0 + n)).2.1 ↔ v ∈ (goL Pn recL (x :: xs) n TL).2) := fun {T2 q} e1 e2 h1 h2 => by
      rw [goL_some e2]
      have := ih m0 (n + q.1) T2 q.2 h1 h2
      simp only [allWith, e1, Bool.true_and]
      exact this
    by_cases ex : tupOf x = []
    · refine no ?_ ?_
      · unfold itemW; rw [if_pos ex]
      · unfold stepL; rw [ex]; rfl
    by_cases c0 : 80 < m0 + n + 1
    · refine wide ?_ fun q e => by have := step_one e; omega
      unfold itemW; rw [if_neg ex, if_pos c0]
    by_cases c1 : isStrA ((tupOf x).getD 0 .non) = true
    · by_cases c2 : tagA "repeat" ((tupOf x).getD 0 .non) = true ∧ (tupOf x).length = 3
      · by_cases c3 : amongA 1 200 ((tupOf x).getD 1 .non) = true
        · rcases hr with ⟨rfl, rfl⟩ | ⟨g, g', rfl, rfl, hg⟩
          · refine no ?_ ?_
            · unfold itemW; rw [if_neg ex, if_neg c0, if_pos c2, if_pos c3]
            · unfold stepL; rw [if_pos c1, if_pos c2, if_pos c3]; rfl
          · obtain ⟨k1, k2⟩ := hg ((tupOf x).getD 2 .non) (hsx 2).2 (m0 + n + 1) T TL (by omega) s
            have e1 : itemW Pn (some g) x (T, m0 + n) = g ((tupOf x).getD 2 .non) (T, m0 + n + 1) := by unfold itemW; rw [if_neg ex, if_neg c0, if_pos c2, if_pos c3]
            have e2 : stepL Pn (some g') x TL = some (1 + (g' ((tupOf x).getD 2 .non) TL).1, (g' ((tupOf x).getD 2 .non) TL).2) := by unfold stepL; rw [if_pos c1, if_pos c2, if_pos c3]; rfl
            cases e : (g ((tupOf x).getD 2 .non) (T, m0 + n + 1)).1 with
            | true =>
              obtain ⟨k3, k4⟩ := k2 e
              have k5 := k1.mp e
              refine on (T2 := (g ((tupOf x).getD 2 .non) (T, m0 + n + 1)).2.1) ?_ e2 (by show m0 + (n + (1 + _)) ≤ 80; omega) k4
              rw [e1]
              refine Prod.ext e (Prod.ext rfl ?_)
              show (g _ _).2.2 = m0 + (n + (1 + _))
              rw [k3]; omega
            | false =>
              have k5 : ¬ (m0 + n + 1 + (g' ((tupOf x).getD 2 .non) TL).1 ≤ 80) := fun z => by rw [k1.mpr z] at e; cases e
              refine wide (by rw [e1]; exact e) fun q eq => ?_
              rw [e2] at eq
              obtain rfl := Option.some.inj eq
              show 80 < m0 + n + (1 + _)
              omega
        · refine no ?_ ?_
          · unfold itemW; rw [if_neg ex, if_neg c0, if_pos c2, if_neg c3]
          · unfold stepL; rw [if_pos c1, if_pos c2, if_neg c3]
      · by_cases c4 : tagA "row" ((tupOf x).getD 0 .non) = true ∧ (tupOf x).length = 4
        · have ed := doing_same (Pn := Pn) (w := (tupOf x).getD 2 .non) s (hsx 3).1
          by_cases c5 : isNm ((tupOf x).getD 1 .non) = true ∧ doingA Pn T ((tupOf x).getD 2 .non) ((tupOf x).getD 3 .non) = true
          · refine on (T2 := insT T (wdO ((tupOf x).getD 1 .non))) (q := (1, TL ++ [wdO ((tupOf x).getD 1 .non)])) ?_ ?_ (by show m0 + (n + 1) ≤ 80; omega) (same_ins s _)
            · unfold itemW rowA; rw [if_neg ex, if_neg c0, if_neg c2, if_pos c4, if_pos c5]; rfl
            · unfold stepL; rw [if_pos c1, if_neg c2, if_pos ⟨c4.1, c4.2, c5.1, ed.trans c5.2⟩]
          · refine no ?_ ?_
            · unfold itemW rowA; rw [if_neg ex, if_neg c0, if_neg c2, if_pos c4, if_neg c5]
            · unfold stepL; rw [if_pos c1, if_neg c2, if_neg fun z => c5 ⟨z.2.2.1, ed.symm.trans z.2.2.2⟩]
        · refine no ?_ ?_
          · unfold itemW; rw [if_neg ex, if_neg c0, if_neg c2, if_neg c4]
          · unfold stepL; rw [if_pos c1, if_neg c2, if_neg fun z => c4 ⟨z.1, z.2.1⟩]
    · have n1 : ∀ t, tagA t ((tupOf x).getD 0 .non) ≠ true := fun t e => by rw [tag_str e] at c1; exact c1 rfl
      refine no ?_ ?_
      · unfold itemW; rw [if_neg ex, if_neg c0, if_neg (fun z => n1 _ z.1), if_neg fun z => n1 _ z.1]
      · unfold stepL; rw [if_neg c1]
theorem body_same (Pn : List (Str × Int)) : ∀ k, RecSame (bodyA Pn k) (bodyL Pn k)
  | k, y, hy, m, T, TL, hm, s => by
    have key : GoSame Pn (itemA Pn k) (match k with | 0 => none | k + 1 => some (bodyL Pn k)) (tupOf y) := by
      have hsh : shs 8 (tupOf y) := shs_of (sh_tup hy)
      cases k with
      | zero => exact go_same (.inl ⟨rfl, rfl⟩) _ hsh
      | succ k => exact go_same (.inr ⟨_, _, rfl, rfl, body_same Pn k⟩) _ hsh
    have := key m 0 T TL hm s
    unfold bodyA bodyL bodyW bodyLW
    by_cases c : isTupA y = true
    · rw [if_pos c, if_pos c]
      cases k with
      | zero => exact this
      | succ k => exact this
    · rw [if_neg c, if_neg c]
      exact both_no rfl
end
end D

namespace D
open PySem PySem.Spec PyProof.Rows L2
theorem part_same {x : A} (hx : shA 8 x) (Pn : List (Str × Int)) (m : Nat) (hm : m ≤ 80) : ((partA x (Pn, m)).1 = true ↔ m + (partL x Pn).1 ≤ 80) ∧ ((partA x (Pn, m)).1 = true → (partA x (Pn, m)).2.2 = m + (partL x Pn).1 ∧ (partA x (Pn, m)).2.1 = (partL x Pn).2) := by
  unfold partA partL
  by_cases c1 : headA Pn x = true ∧ rowsA 4 ((tupOf x).getD 1 .non) = true
  · rw [if_pos c1, if_pos c1]
    generalize hw : (wordsA ((tupOf x).getD 1 .non)) = ws
    by_cases c2 : 80 < m + (2 + ws.length)
    · rw [if_pos c2]
      refine ⟨⟨(fun z => nomatch z), fun z => ?_⟩, (fun z => nomatch z)⟩
      exfalso
      revert z
      dsimp only
      split
      · omega
      · omega
    · rw [if_neg c2]
      obtain ⟨k1, k2⟩ := body_same Pn 3 ((tupOf x).getD 2 .non) (sh_get hx 2).2 (m + (2 + ws.length)) ws ws (by omega) fun _ => .rfl
      cases e : (bodyA Pn 3 ((tupOf x).getD 2 .non) (ws, m + (2 + ws.length))).1 with
      | false =>
        rw [if_neg fun z => nomatch z.1]
        have : ¬ (m + (2 + ws.length) + (bodyL Pn 3 ((tupOf x).getD 2 .non) ws).1 ≤ 80) := fun z => by rw [k1.mpr z] at e; cases e
        refine ⟨⟨(fun z => nomatch z), fun z => ?_⟩, (fun z => nomatch z)⟩
        exfalso
        revert z
        dsimp only
        split
        · omega
        · omega
      | true =>
        obtain ⟨k3, k4⟩ := k2 e
        have k5 := k1.mp e
        by_cases c3 : isStrA ((tupOf x).getD 3 .non) = true ∧ wdO ((tupOf x).getD 3 .non) ∈ (bodyA Pn 3 ((tupOf x).getD 2 .non) (ws, m + (2 + ws.length))).2.1
        · rw [if_pos ⟨rfl, c3⟩, if_pos ⟨c3.1, (k4 _).mp c3.2⟩]
          exact ⟨⟨fun _ => by dsimp only; omega, fun _ => rfl⟩, fun _ => ⟨by dsimp only; omega, rfl⟩⟩
        · rw [if_neg fun z => c3 z.2, if_neg fun z => c3 ⟨z.1, (k4 _).mpr z.2⟩]
          exact both_no rfl
  · rw [if_neg c1, if_neg c1]
    exact both_no rfl
theorem parts_same : ∀ {qs : List A}, (∀ x ∈ qs, shA 8 x) → ∀ (Pn : List (Str × Int)) (m : Nat), m ≤ 80 → ((partsA qs (Pn, m)).1 = true ↔ m + (partsL qs Pn).1 ≤ 80) ∧ ((partsA qs (Pn, m)).1 = true → (partsA qs (Pn, m)).2.2 = m + (partsL qs Pn).1 ∧ (partsA qs (Pn, m)).2.1 = (partsL qs Pn).2)
  | [], _, Pn, m, hm => ⟨⟨fun _ => hm, fun _ => rfl⟩, fun _ => ⟨rfl, rfl⟩⟩
  | x :: qs, h, Pn, m, hm => by
    obtain ⟨k1, k2⟩ := part_same (h x (.head _)) Pn m hm
    simp only [partsA, partsL]
    cases e : (partA x (Pn, m)).1 with
    | false =>
      have : ¬ (m + (partL x Pn).1 ≤ 80) := fun z => by rw [k1.mpr z] at e; cases e
      refine ⟨⟨(fun z => nomatch z), fun z => ?_⟩, (fun z => nomatch z)⟩
      exfalso; omega
    | true =>
      obtain ⟨k3, k4⟩ := k2 e
      have k5 := k1.mp e
      have st : (partA x (Pn, m)).2 = ((partL x Pn).2, m + (partL x Pn).1) := Prod.ext k4 k3
      have ih := parts_same (fun y hy => h y (.tail _ hy)) (partL x Pn).2 (m + (partL x Pn).1) k5
      rw [Bool.true_and, st, ← Nat.add_assoc]
      exact ih
theorem prog_same {x : A} (h : ∀ y ∈ tupOf x, shA 8 y) : progL x = progA x := by
  have hg : ∀ i, shA 8 ((tupOf x).getD i .non) := fun i => by
    rw [List.getD_eq_getElem?_getD]
    cases e : (tupOf x)[i]? with
    | none => trivial
    | some y => exact h y (List.mem_of_getElem? e)
  obtain ⟨k1, k2⟩ := parts_same (fun y hy => (sh_tup (hg 0) y hy).2) [] 0 (by decide)
  rw [Nat.zero_add] at k1 k2
  unfold progL progA
  generalize hq : tupOf ((tupOf x).getD 0 .non) = qs at k1 k2 ⊢
  generalize hw : wordsA ((tupOf x).getD 1 .non) = ws
  generalize (isTupA x && decide ((tupOf x).length = 4) && isTupA ((tupOf x).getD 0 .non) && decide (qs.length ≤ 6)) = b0
  cases e : (partsA qs ([], 0)).1 with
  | false =>
    have : ¬ ((partsL qs []).1 ≤ 80) := fun z => by rw [k1.mpr z] at e; cases e
    rw [decide_eq_false this]
    simp
  | true =>
    obtain ⟨k3, k4⟩ := k2 e
    rw [decide_eq_true (k1.mp e), k3, k4]
    have k5 := k1.mp e
    generalize (partsL qs []).1 = np at *
    generalize (partsL qs []).2 = Pn at *
    by_cases c : np + ws.length ≤ 80
    · obtain ⟨j1, j2⟩ := body_same Pn 3 ((tupOf x).getD 2 .non) (hg 2) (np + ws.length) ws ws c fun _ => .rfl
      rw [decide_eq_true c]
      cases e2 : (bodyA Pn 3 ((tupOf x).getD 2 .non) (ws, np + ws.length)).1 with
      | false =>
        have : ¬ (np + ws.length + (bodyL Pn 3 ((tupOf x).getD 2 .non) ws).1 ≤ 80) := fun z => by rw [j1.mpr z] at e2; cases e2
        rw [decide_eq_false this]
        simp
      | true =>
        obtain ⟨j3, j4⟩ := j2 e2
        rw [decide_eq_true (j1.mp e2), j3]
        simp only [Bool.and_true]
        congr 1
        refine congrArg (List.all _) ?_
        funext w
        rw [decide_eq_decide]
        exact (j4 w).symm
    · rw [decide_eq_false c, decide_eq_false (show ¬ (np + ws.length + (bodyL Pn 3 ((tupOf x).getD 2 .non) ws).1 ≤ 80) by omega)]
      simp
theorem among_int {lo hi : Int} {x : A} (h : amongA lo hi x = true) : ∃ i, x = .int i ∧ lo ≤ i ∧ i ≤ hi := by
  cases x with
  | int i => simp only [amongA, Bool.and_eq_true, decide_eq_true_eq] at h; exact ⟨i, rfl, h⟩
  | _ => cases h
theorem nm_str {x : A} (h : isNm x = true) : ∃ w, x = .str w ∧ isNm (.str w) = true := by
  cases x with
  | str w => exact ⟨w, rfl, h⟩
  | _ => cases h
theorem fr_of {x : A} (h : isFr x = true) : ∃ n d, x = .tup [.int n, .int d] ∧ Fr n d := by
  unfold isFr at h
  split at h
  · rename_i n d
    simp only [Bool.and_eq_true, decide_eq_true_eq] at h
    exact ⟨n, d, rfl, ⟨h.1, h.2⟩⟩
  · cases h
theorem thing_ok {T : List Str} (hT : ∀ w ∈ T, isNm (.str w) = true) {x : A} (h : thingA T x = true) : ThOk T x := by
  cases x with
  | str w =>
    have hw := of_decide_eq_true h
    obtain ⟨a, b, _⟩ := isNm_let (hT w hw)
    exact .inl ⟨w, rfl, hw, a, b⟩
  | tup xs => exact .inr (fr_of h)
  | _ => cases h
theorem ok_thing {T : List Str} {x : A} (h : ThOk T x) : thingA T x = true := by
  rcases h with ⟨w, rfl, h1, _⟩ | ⟨n, d, rfl, h⟩
  · exact decide_eq_true h1
  · show isFr (.tup [.int n, .int d]) = true
    simp only [isFr, Bool.and_eq_true, decide_eq_true_eq]; exact ⟨h.pos, h.low⟩
theorem tup_eq {x : A} (h : isTupA x = true) : x = .tup (tupOf x) := by
  cases x with
  | tup xs => rfl
  | _ => cases h
theorem str_eq {x : A} (h : isStrA x = true) : x = .str (wdO x) := by
  cases x with
  | str w => rfl
  | _ => cases h
theorem len2 {xs : List A} (h : xs.length = 2) : xs = [xs.getD 0 .non, xs.getD 1 .non] := by
  match xs, h with
  | [a, b], _ => rfl
theorem len3 {xs : List A} (h : xs.length = 3) : xs = [xs.getD 0 .non, xs.getD 1 .non, xs.getD 2 .non] := by
  match xs, h with
  | [a, b, c], _ => rfl
theorem len4 {xs : List A} (h : xs.length = 4) : xs = [xs.getD 0 .non, xs.getD 1 .non, xs.getD 2 .non, xs.getD 3 .non] := by
  match xs, h with
  | [a, b, c, d], _ => rfl
theorem doing_ok {Pn : List (Str × Int)} (hP : ∀ p ∈ Pn, isNm (.str p.1) = true) {T : List Str} (hT : ∀ w ∈ T, isNm (.str w) = true) {w ts : A} (h : doingA Pn T w ts = true) : ∃ wd xs, w = .str wd ∧ ts = .tup xs ∧ RowOk Pn T wd xs := by
  unfold doingA at h
  simp only [Bool.and_eq_true] at h
  obtain ⟨⟨h1, h2⟩, h3⟩ := h
  refine ⟨_, _, str_eq h1, tup_eq h2, ?_⟩
  unfold doingW at h3
  by_cases c : wdO w = "call"
  · rw [if_pos c] at h3
    unfold callA at h3
    split at h3
    · rename_i c2 r e
      simp only [Bool.and_eq_true, decide_eq_true_eq] at h3
      obtain ⟨p, hp, e2⟩ : ∃ p ∈ Pn, p.1 = c2 := by
        have := h3.1
        unfold valI at this
        cases ef : Pn.find? (fun kv => decide (kv.1 = c2)) with
        | none => rw [ef] at this; cases this
        | some p => exact ⟨p, List.mem_of_find?_eq_some ef, by simpa using List.find?_some ef⟩
      obtain ⟨a, b, _⟩ := isNm_let (e2 ▸ hP p hp : isNm (.str c2) = true)
      exact .inl ⟨c, c2, r, e, h3.1, a, b, fun x hx => thing_ok hT (List.all_eq_true.mp h3.2 x hx)⟩
    · cases h3
  · rw [if_neg c] at h3
    split at h3
    · rename_i v
      by_cases p : wdO w = "power"
      · rw [if_pos p] at h3
        rw [p] at v
        have l2 : (tupOf ts).length = 2 := by
          have e2 : valI TAKENL "power" = some 2 := by decide +kernel
          rw [e2] at v
          have := Option.some.inj v
          omega
        unfold powA at h3
        simp only [Bool.and_eq_true] at h3
        obtain ⟨k, ek, k1, k2⟩ := among_int h3.2
        refine .inr (.inl ⟨p, (tupOf ts).getD 0 .non, k, ?_, thing_ok hT h3.1, k1, k2⟩)
        have := len2 l2
        rw [ek] at this
        exact this
      · rw [if_neg p] at h3
        exact .inr (.inr ⟨c, p, v, fun x hx => thing_ok hT (List.all_eq_true.mp h3 x hx)⟩)
    · cases h3
theorem ok_doing {Pn : List (Str × Int)} {T : List Str} {w : Str} {ts : List A} (h : RowOk Pn T w ts) : doingA Pn T (.str w) (.tup ts) = true := by
  show doingW Pn T w ts = true
  unfold doingW
  rcases h with ⟨rfl, c, r, rfl, h3, h4, h5, h6⟩ | ⟨rfl, a, k, rfl, h3, h4, h5⟩ | ⟨h1, h2, h3, h4⟩
  · rw [if_pos rfl]
    show (decide _ && r.all _) = true
    rw [decide_eq_true h3, Bool.true_and]
    exact List.all_eq_true.mpr fun x hx => ok_thing (h6 x hx)
  · rw [if_neg (by decide +kernel), if_pos (show valI TAKENL "power" = some ((([a, A.int k] : List A).length : Nat) : Int) by rw [show valI TAKENL "power" = some 2 by decide +kernel]; rfl), if_pos rfl]
    show (thingA T a && (decide _ && decide _)) = true
    rw [ok_thing h3, decide_eq_true h4, decide_eq_true h5]; rfl
  · rw [if_neg h1, if_pos h3, if_neg h2]
    exact List.all_eq_true.mpr fun x hx => ok_thing (h4 x hx)
end D

namespace D
open PySem PySem.Spec PyProof.Rows L2
theorem told_nms : ∀ (i : It) {Pn : List (Str × Int)} {d : Nat} {T : List Str}, i.ok Pn d T → (∀ w ∈ T, isNm (.str w) = true) → ∀ w ∈ i.told T, isNm (.str w) = true := by
  intro i
  exact (It.rec (motive_1 := fun i => ∀ {Pn : List (Str × Int)} {d : Nat} {T : List Str}, i.ok Pn d T → (∀ w ∈ T, isNm (.str w) = true) → ∀ w ∈ i.told T, isNm (.str w) = true)
    (motive_2 := fun b => ∀ {Pn : List (Str × Int)} {d : Nat} {T : List Str}, okIts Pn d T b → (∀ w ∈ T, isNm (.str w) = true) → ∀ w ∈ toldIts b T, isNm (.str w) = true)
    (fun x w ts {Pn d T} h hT v hv => by
      simp only [It.ok] at h
      simp only [It.told, mem_insT] at hv
      rcases hv with hv | rfl
      · exact hT v hv
      · exact h.2.1)
    (fun n b ih {Pn d T} h hT => by
      simp only [It.ok] at h
      simp only [It.told]
      exact ih h.2.2.2 hT)
    (fun {Pn d T} h hT => by simp only [toldIts]; exact hT)
    (fun i b ih1 ih2 {Pn d T} h hT => by
      simp only [okIts] at h
      simp only [toldIts]
      exact ih2 h.2 (ih1 h.1 hT)) i)
def ItemDec (Pn : List (Str × Int)) (d : Nat) (f : A → St → Bool × St) : Prop := ∀ (x : A), shA 8 x → ∀ (T : List Str) (m : Nat), (∀ w ∈ T, isNm (.str w) = true) → (f x (T, m)).1 = true → ∃ i : It, x = i.a ∧ i.ok Pn d T ∧ i.tsOk ∧ (f x (T, m)).2 = (i.told T, m + i.size) ∧ m + i.size ≤ 80
def BodyDec (Pn : List (Str × Int)) (d : Nat) (g : A → St → Bool × St) : Prop := ∀ (x : A), shA 8 x → ∀ (T : List Str) (m : Nat), m ≤ 80 → (∀ w ∈ T, isNm (.str w) = true) → (g x (T, m)).1 = true → ∃ b : List It, x = .tup (aIts b) ∧ okIts Pn d T b ∧ tsIts b ∧ (g x (T, m)).2 = (toldIts b T, m + sizeIts b) ∧ m + sizeIts b ≤ 80
theorem all_dec {Pn : List (Str × Int)} {d : Nat} {f : A → St → Bool × St} (hf : ItemDec Pn d f) : ∀ (xs : List A), shs 8 xs → ∀ (T : List Str) (m : Nat), m ≤ 80 → (∀ w ∈ T, isNm (.str w) = true) → (allWith f xs (T, m)).1 = true → ∃ b : List It, xs = aIts b ∧ okIts Pn d T b ∧ tsIts b ∧ (allWith f xs (T, m)).2 = (toldIts b T, m + sizeIts b) ∧ m + sizeIts b ≤ 80
  | [], _, T, m, hm, _, _ => ⟨[], rfl, trivial, trivial, rfl, hm⟩
  | x :: xs, hs, T, m, hm, hT, h => by
    simp only [shs] at hs
    simp only [allWith, Bool.and_eq_true] at h
    obtain ⟨i, rfl, ok, ts, e, hi⟩ := hf x hs.1.2 T m hT h.1
    rw [e] at h
    obtain ⟨b, rfl, ok2, ts2, e2, hi2⟩ := all_dec hf xs hs.2 (i.told T) (m + i.size) hi (told_nms i ok hT) h.2
    refine ⟨i :: b, by simp only [aIts], by simp only [okIts]; exact ⟨ok, ok2⟩, by simp only [tsIts]; exact ⟨ts, ts2⟩, ?_, by simp only [sizeIts]; omega⟩
    simp only [allWith, e, e2, toldIts, sizeIts, Nat.add_assoc]
theorem body_dec {Pn : List (Str × Int)} {d : Nat} {f : A → St → Bool × St} (hf : ItemDec Pn d f) : BodyDec Pn d (bodyW f) := fun x hx T m hm hT h => by
  unfold bodyW at h ⊢
  by_cases c : isTupA x = true
  · rw [if_pos c] at h ⊢
    obtain ⟨b, e, r⟩ := all_dec hf (tupOf x) (shs_of (sh_tup hx)) T m hm hT h
    exact ⟨b, by rw [tup_eq c, e], r⟩
  · rw [if_neg c] at h; cases h
theorem itemW_dec {Pn : List (Str × Int)} (hP : ∀ p ∈ Pn, isNm (.str p.1) = true) {d : Nat} {rec : Option (A → St → Bool × St)} (d3 : d ≤ 3) (hr : ∀ g, rec = some g → d < 3 ∧ BodyDec Pn (d + 1) g) : ItemDec Pn d (itemW Pn rec) := fun x hx T m hT h => by
  have hsx := sh_get hx
  unfold itemW at h ⊢
  have isT : tupOf x ≠ [] → x = .tup (tupOf x) := fun ne => by
    cases x with
    | tup xs => rfl
    | _ => exact absurd rfl ne
  by_cases ex : tupOf x = []
  · rw [if_pos ex] at h; cases h
  rw [if_neg ex] at h ⊢
  have xt := isT ex
  dsimp only at h ⊢
  by_cases c0 : 80 < m + 1
  · rw [if_pos c0] at h; cases h
  rw [if_neg c0] at h ⊢
  by_cases c2 : tagA "repeat" ((tupOf x).getD 0 .non) = true ∧ (tupOf x).length = 3
  · rw [if_pos c2] at h ⊢
    by_cases c3 : amongA 1 200 ((tupOf x).getD 1 .non) = true
    · rw [if_pos c3] at h ⊢
      cases rec with
      | none => cases h
      | some g =>
        obtain ⟨hd, hg⟩ := hr g rfl
        obtain ⟨n, en, n1, n2⟩ := among_int c3
        dsimp only at h ⊢
        obtain ⟨b, eb, ok, ts, e, hz⟩ := hg ((tupOf x).getD 2 .non) (hsx 2).2 T (m + 1) (by omega) hT h
        refine ⟨.rep n b, ?_, by simp only [It.ok]; exact ⟨hd, n1, n2, ok⟩, by simp only [It.tsOk]; exact ts, ?_, by simp only [It.size]; omega⟩
        · rw [xt, len3 c2.2, tag_str c2.1, en, eb]; simp only [It.a]
        · rw [e]; simp only [It.told, It.size, Nat.add_assoc]
    · rw [if_neg c3] at h; cases h
  · rw [if_neg c2] at h ⊢
    by_cases c4 : tagA "row" ((tupOf x).getD 0 .non) = true ∧ (tupOf x).length = 4
    · rw [if_pos c4] at h ⊢
      unfold rowA at h ⊢
      split at h
      · rename_i c5
        rw [if_pos c5]
        obtain ⟨nm, en, hn⟩ := nm_str c5.1
        obtain ⟨wd, xs, ew, ets, ro⟩ := doing_ok hP hT c5.2
        have l8 := (hsx 3).1
        rw [ets] at l8
        refine ⟨.row nm wd xs, ?_, by simp only [It.ok]; exact ⟨d3, hn, ro⟩, by simp only [It.tsOk]; exact Nat.le_trans l8 (by decide), ?_, by simp only [It.size]; omega⟩
        · rw [xt, len4 c4.2, tag_str c4.1, en, ew, ets]; simp only [It.a]
        · rw [en]; simp only [It.told, It.size]; rfl
      · cases h
    · rw [if_neg c4] at h; cases h
theorem item_dec {Pn : List (Str × Int)} (hP : ∀ p ∈ Pn, isNm (.str p.1) = true) : ∀ (k d : Nat), d + k = 3 → ItemDec Pn d (itemA Pn k)
  | 0, d, e => itemW_dec hP (by omega) fun g h => by cases h
  | k + 1, d, e => itemW_dec hP (by omega) fun g h => by
    obtain rfl := Option.some.inj h
    exact ⟨by omega, body_dec (item_dec hP k (d + 1) (by omega))⟩
theorem names_str {x : A} {most : Int} (h : namesA most x = true) : x = .tup ((wordsA x).map A.str) ∧ 1 ≤ (wordsA x).length ∧ ((wordsA x).length : Int) ≤ most ∧ ∀ w ∈ wordsA x, isNm (.str w) = true := by
  unfold namesA at h
  simp only [Bool.and_eq_true, decide_eq_true_eq] at h
  obtain ⟨⟨⟨h1, h2⟩, h3⟩, h4⟩ := h
  have e : ∀ l : List A, l.all isNm = true → l = (l.map wdO).map A.str ∧ ∀ w ∈ l.map wdO, isNm (.str w) = true := fun l => by
    induction l with
    | nil => exact fun _ => ⟨rfl, fun _ h => nomatch h⟩
    | cons y l ih =>
      intro h
      simp only [List.all_cons, Bool.and_eq_true] at h
      obtain ⟨w, rfl, hw⟩ := nm_str h.1
      obtain ⟨a, b⟩ := ih h.2
      refine ⟨by rw [List.map_cons, List.map_cons, ← a]; rfl, fun v hv => ?_⟩
      rcases List.mem_cons.mp hv with rfl | hv
      · exact hw
      · exact b v hv
  obtain ⟨a, b⟩ := e (tupOf x) h4
  unfold wordsA
  refine ⟨by rw [← a]; exact tup_eq h1, by rw [List.length_map]; exact h2, by rw [List.length_map]; exact h3, b⟩
theorem rows_str {x : A} {most : Int} (h : rowsA most x = true) : x = .tup ((wordsA x).map A.str) ∧ 1 ≤ (wordsA x).length ∧ ((wordsA x).length : Int) ≤ most ∧ (∀ w ∈ wordsA x, isNm (.str w) = true) ∧ (wordsA x).Nodup := by
  unfold rowsA at h
  simp only [Bool.and_eq_true, decide_eq_true_eq] at h
  obtain ⟨a, b, c, d⟩ := names_str h.1
  exact ⟨a, b, c, d, h.2⟩
theorem part_dec {x : A} (hx : shA 8 x) {Pn : List (Str × Int)} (hP : ∀ p ∈ Pn, isNm (.str p.1) = true) {m : Nat} (h : (partA x (Pn, m)).1 = true) : ∃ q : Pt, x = q.a ∧ q.ok Pn ∧ (partA x (Pn, m)).2 = (Pn ++ [(q.nm, (q.ins.length : Int))], m + q.size) ∧ m + q.size ≤ 80 := by
  unfold partA at h ⊢
  by_cases c1 : headA Pn x = true ∧ rowsA 4 ((tupOf x).getD 1 .non) = true
  · rw [if_pos c1] at h ⊢
    obtain ⟨e1, i1, i4, hn, nd⟩ := rows_str c1.2
    generalize hw : wordsA ((tupOf x).getD 1 .non) = ws at *
    dsimp only at h ⊢
    by_cases c2 : 80 < m + (2 + ws.length)
    · rw [if_pos c2] at h; cases h
    rw [if_neg c2] at h ⊢
    split at h
    · rename_i c3
      rw [if_pos c3]
      obtain ⟨b, eb, ok, ts, e, hz⟩ := body_dec (item_dec hP 3 0 rfl) ((tupOf x).getD 2 .non) (sh_get hx 2).2 ws (m + (2 + ws.length)) (by omega) hn c3.1
      have e2 : (bodyA Pn 3 ((tupOf x).getD 2 .non) (ws, m + (2 + ws.length))).2 = (toldIts b ws, m + (2 + ws.length) + sizeIts b) := e
      have hh := c1.1
      unfold headA at hh
      simp only [Bool.and_eq_true, decide_eq_true_eq] at hh
      obtain ⟨⟨⟨t1, t2⟩, t3⟩, t4⟩ := hh
      obtain ⟨nm, en, hnm⟩ := nm_str t3
      have eg := str_eq c3.2.1
      have hgv := c3.2.2
      rw [e2] at hgv
      rw [en] at t4
      refine ⟨⟨nm, ws, b, wdO ((tupOf x).getD 3 .non)⟩, ?_, ⟨hnm, by simpa [wdO] using t4, i1, by show ws.length ≤ 4; omega, hn, nd, ts, ok, hgv⟩, ?_, by simp only [Pt.size]; omega⟩
      · conv => lhs; rw [tup_eq t1, len4 t2, en, e1, eb, eg]
        rfl
      · rw [e2, en]
        refine Prod.ext rfl ?_
        simp only [Pt.size]; omega
    · cases h
  · rw [if_neg c1] at h; cases h
theorem parts_dec : ∀ {qs : List A}, (∀ x ∈ qs, shA 8 x) → ∀ {Pn : List (Str × Int)}, (∀ p ∈ Pn, isNm (.str p.1) = true) → ∀ {m : Nat}, m ≤ 80 → (partsA qs (Pn, m)).1 = true → ∃ l : List Pt, qs = l.map Pt.a ∧ okPts Pn l ∧ (partsA qs (Pn, m)).2 = (Pn ++ pnPts l, m + sizePts l) ∧ m + sizePts l ≤ 80
  | [], _, Pn, _, m, hm, _ => ⟨[], rfl, trivial, by simp [partsA, sizePts], by simpa [sizePts] using hm⟩
  | x :: qs, hs, Pn, hP, m, hm, h => by
    simp only [partsA, Bool.and_eq_true] at h
    obtain ⟨q, rfl, ok, e, hz⟩ := part_dec (hs _ (.head _)) hP h.1
    rw [e] at h
    have hP2 : ∀ p ∈ Pn ++ [(q.nm, (q.ins.length : Int))], isNm (.str p.1) = true := fun p hp => by
      rcases List.mem_append.mp hp with hp | hp
      · exact hP p hp
      · rw [List.mem_singleton.mp hp]; exact ok.nm
    obtain ⟨l, rfl, ok2, e2, hz2⟩ := parts_dec (fun y hy => hs y (.tail _ hy)) hP2 hz h.2
    have ez : sizePts (q :: l) = q.size + sizePts l := by simp [sizePts]
    refine ⟨q :: l, rfl, by simp only [okPts]; exact ⟨ok, ok2⟩, ?_, by rw [ez]; omega⟩
    simp only [partsA, e, e2]
    refine Prod.ext (by simp) (by rw [ez]; simp only; omega)
theorem prog_dec {x : A} (hx : ∀ y ∈ tupOf x, shA 8 y) (h : progA x = true) : ∃ g : Pg, x = g.a ∧ g.ok := by
  have hg : ∀ i, shA 8 ((tupOf x).getD i .non) := fun i => by
    rw [List.getD_eq_getElem?_getD]
    cases e : (tupOf x)[i]? with
    | none => trivial
    | some y => exact hx y (List.mem_of_getElem? e)
  unfold progA at h
  simp only [Bool.and_eq_true, decide_eq_true_eq] at h
  obtain ⟨⟨⟨⟨⟨⟨⟨⟨⟨⟨h1, h2⟩, h3⟩, h4⟩, h5⟩, h6⟩, h7⟩, h8⟩, h9⟩, h10⟩, h11⟩ := h
  obtain ⟨ps, eps, okp, ep, _⟩ := parts_dec (Pn := []) (fun y hy => (sh_tup (hg 0) y hy).2) (fun _ k => nomatch k) (by decide) h5
  rw [ep] at h7 h8 h10 h11
  obtain ⟨e1, i1, i6, hn, nd⟩ := rows_str h6
  obtain ⟨e9, o1, o4, ho⟩ := names_str h9
  simp only [List.nil_append, Nat.zero_add] at h7 h8 h10 h11
  have hP : ∀ p ∈ pnPts ps, isNm (.str p.1) = true := by
    have gen : ∀ (l : List Pt) (Pn : List (Str × Int)), okPts Pn l → ∀ p ∈ pnPts l, isNm (.str p.1) = true := by
      intro l
      induction l with
      | nil => exact fun _ _ p hp => nomatch hp
      | cons q l ih =>
        intro Pn ok p hp
        simp only [okPts] at ok
        rcases List.mem_cons.mp hp with rfl | hp
        · exact ok.1.nm
        · exact ih _ ok.2 p hp
    exact gen ps [] okp
  obtain ⟨b, eb, okb, ts, e, hz⟩ := body_dec (item_dec hP 3 0 rfl) ((tupOf x).getD 2 .non) (hg 2) (wordsA ((tupOf x).getD 1 .non)) (sizePts ps + (wordsA ((tupOf x).getD 1 .non)).length) h7 hn h8
  have e2 : (bodyA (pnPts ps) 3 ((tupOf x).getD 2 .non) (wordsA ((tupOf x).getD 1 .non), sizePts ps + (wordsA ((tupOf x).getD 1 .non)).length)).2 = (toldIts b (wordsA ((tupOf x).getD 1 .non)), sizePts ps + (wordsA ((tupOf x).getD 1 .non)).length + sizeIts b) := e
  rw [e2] at h10 h11
  refine ⟨⟨ps, wordsA ((tupOf x).getD 1 .non), b, wordsA ((tupOf x).getD 3 .non)⟩, ?_, ⟨by have := congrArg List.length eps; rw [List.length_map] at this; show ps.length ≤ 6; omega, okp, i1, by show (wordsA _).length ≤ 6; omega, hn, nd, ts, okb, o1, by show (wordsA _).length ≤ 4; omega, fun w hw => ⟨ho w hw, of_decide_eq_true (List.all_eq_true.mp h11 w hw)⟩, by simp only [Pg.size]; simp only at h10; omega⟩⟩
  conv => lhs; rw [tup_eq h1, len4 h2, tup_eq h3, eps, e1, eb, e9]
  rfl
mutual
theorem ok_item {Pn : List (Str × Int)} : ∀ {i : It} {k d : Nat} {T : List Str} {m : Nat}, d + k = 3 → i.ok Pn d T → m + i.size ≤ 80 → itemA Pn k i.a (T, m) = (true, (i.told T, m + i.size))
  | .row x w ts, k, d, T, m, hd, h, hm => by
    simp only [It.ok] at h
    simp only [It.size] at hm
    have e : ∀ rec, itemW Pn rec (It.row x w ts).a (T, m) = (true, ((It.row x w ts).told T, m + (It.row x w ts).size)) := fun rec => by
      simp only [It.a, It.told, It.size]
      unfold itemW
      rw [if_neg (fun z => nomatch z), if_neg (by show ¬ 80 < m + 1; omega), if_neg (fun z => by have := z.2; cases this), if_pos ⟨(show decide (("row" : Str) = "row") = true by decide +kernel), rfl⟩]
      unfold rowA
      exact if_pos (show isNm (A.str x) = true ∧ doingA Pn T (.str w) (.tup ts) = true from ⟨h.2.1, ok_doing h.2.2⟩)
    cases k with
    | zero => exact e none
    | succ k => exact e _
  | .rep n b, k, d, T, m, hd, h, hm => by
    simp only [It.ok] at h
    simp only [It.size] at hm
    cases k with
    | zero => omega
    | succ k =>
      show itemW Pn (some (bodyW (itemA Pn k))) (It.rep n b).a (T, m) = _
      simp only [It.a, It.told, It.size]
      unfold itemW
      rw [if_neg (fun z => nomatch z), if_neg (by show ¬ 80 < m + 1; omega), if_pos ⟨(show decide (("repeat" : Str) = "repeat") = true by decide +kernel), rfl⟩]
      refine (if_pos (show (decide ((1 : Int) ≤ n) && decide (n ≤ 200)) = true by rw [decide_eq_true h.2.1, decide_eq_true h.2.2.1]; rfl)).trans ?_
      show bodyW (itemA Pn k) (.tup (aIts b)) (T, m + 1) = _
      unfold bodyW
      rw [if_pos (show isTupA (.tup (aIts b)) = true from rfl)]
      have := ok_items (Pn := Pn) (k := k) (d := d + 1) (T := T) (m := m + 1) (by omega) h.2.2.2 (by omega)
      rw [← Nat.add_assoc]
      exact this
theorem ok_items {Pn : List (Str × Int)} : ∀ {b : List It} {k d : Nat} {T : List Str} {m : Nat}, d + k = 3 → okIts Pn d T b → m + sizeIts b ≤ 80 → allWith (itemA Pn k) (aIts b) (T, m) = (true, (toldIts b T, m + sizeIts b))
  | [], _, _, _, _, _, _, _ => rfl
  | i :: b, k, d, T, m, hd, h, hm => by
    simp only [okIts] at h
    simp only [sizeIts] at hm
    have e1 := ok_item (Pn := Pn) (i := i) (k := k) (d := d) (T := T) (m := m) hd h.1 (by omega)
    have e2 := ok_items (Pn := Pn) (b := b) (k := k) (d := d) (T := i.told T) (m := m + i.size) hd h.2 (by omega)
    simp only [aIts, allWith, toldIts, sizeIts, e1, e2, Bool.true_and, Nat.add_assoc]
end
theorem words_map (ws : List Str) : wordsA (.tup (ws.map A.str)) = ws := by
  unfold wordsA tupOf
  rw [List.map_map]
  exact List.map_id'' (fun _ => rfl) ws
theorem names_map {ws : List Str} {most : Int} (h1 : 1 ≤ ws.length) (h2 : (ws.length : Int) ≤ most) (h : ∀ w ∈ ws, isNm (.str w) = true) : namesA most (.tup (ws.map A.str)) = true := by
  unfold namesA
  simp only [tupOf, isTupA, List.length_map, decide_eq_true h1, decide_eq_true h2, Bool.true_and]
  exact List.all_eq_true.mpr fun x hx => by
    obtain ⟨w, hw, rfl⟩ := List.mem_map.mp hx
    exact h w hw
theorem ok_part {q : Pt} {Pn : List (Str × Int)} {m : Nat} (h : q.ok Pn) (hm : m + q.size ≤ 80) : partA q.a (Pn, m) = (true, (Pn ++ [(q.nm, (q.ins.length : Int))], m + q.size)) := by
  have i4 := h.i4
  have hd : headA Pn q.a = true := by
    show (true && decide (4 = 4) && isNm (.str q.nm) && (valI Pn q.nm).isNone) = true
    rw [h.nm, h.new]; rfl
  have hr : rowsA 4 (.tup (q.ins.map A.str)) = true := by
    unfold rowsA
    rw [names_map h.i1 (by omega) h.ins, words_map, decide_eq_true h.unl]; rfl
  simp only [Pt.size] at hm
  unfold partA
  show (if headA Pn q.a = true ∧ rowsA 4 (.tup (q.ins.map A.str)) = true then _ else _) = _
  rw [if_pos ⟨hd, hr⟩]
  show (if 80 < m + (2 + (wordsA (.tup (q.ins.map A.str))).length) then _ else _) = _
  rw [words_map, if_neg (by omega)]
  have eb : bodyA Pn 3 (.tup (aIts q.body)) (q.ins, m + (2 + q.ins.length)) = (true, (toldIts q.body q.ins, m + (2 + q.ins.length) + sizeIts q.body)) := by
    unfold bodyA bodyW
    rw [if_pos (show isTupA (.tup (aIts q.body)) = true from rfl)]
    exact ok_items rfl h.body (by omega)
  have ec : (bodyA Pn 3 ((tupOf q.a).getD 2 .non) (wordsA ((tupOf q.a).getD 1 .non), m + (2 + (wordsA ((tupOf q.a).getD 1 .non)).length))) = (true, (toldIts q.body q.ins, m + (2 + q.ins.length) + sizeIts q.body)) := by
    show bodyA Pn 3 (.tup (aIts q.body)) (wordsA (.tup (q.ins.map A.str)), m + (2 + (wordsA (.tup (q.ins.map A.str))).length)) = _
    rw [words_map]; exact eb
  dsimp only
  rw [ec]
  rw [if_pos ⟨rfl, rfl, h.give⟩]
  refine Prod.ext rfl (Prod.ext ?_ ?_)
  · show Pn ++ [(q.nm, ((wordsA (.tup (q.ins.map A.str))).length : Int))] = _
    rw [words_map]
  show m + (2 + q.ins.length) + sizeIts q.body = m + q.size
  simp only [Pt.size]; omega
theorem ok_parts : ∀ {l : List Pt} {Pn : List (Str × Int)} {m : Nat}, okPts Pn l → m + sizePts l ≤ 80 → partsA (l.map Pt.a) (Pn, m) = (true, (Pn ++ pnPts l, m + sizePts l))
  | [], Pn, m, _, _ => by simp [partsA, sizePts]
  | q :: l, Pn, m, h, hm => by
    simp only [okPts] at h
    have ez : sizePts (q :: l) = q.size + sizePts l := by simp [sizePts]
    rw [ez] at hm ⊢
    have e1 := ok_part (m := m) h.1 (by omega)
    have e2 := ok_parts (m := m + q.size) h.2 (by omega)
    simp only [List.map_cons, partsA, e1, e2, Bool.true_and]
    refine Prod.ext rfl (Prod.ext (by simp) (by simp only; omega))
theorem ok_prog {g : Pg} (h : g.ok) : progA g.a = true := by
  have hz := h.size
  have p6 := h.p6
  have i6 := h.i6
  have o4 := h.o4
  simp only [Pg.size] at hz
  have ep := ok_parts (m := 0) h.parts (by omega)
  have hr : rowsA 6 (.tup (g.ins.map A.str)) = true := by
    unfold rowsA
    rw [names_map h.i1 (by omega) h.ins, words_map, decide_eq_true h.unl]; rfl
  have eb : bodyA (pnPts g.parts) 3 (.tup (aIts g.body)) (g.ins, sizePts g.parts + g.ins.length) = (true, (toldIts g.body g.ins, sizePts g.parts + g.ins.length + sizeIts g.body)) := by
    unfold bodyA bodyW
    rw [if_pos (show isTupA (.tup (aIts g.body)) = true from rfl)]
    exact ok_items rfl h.body (by omega)
  unfold progA
  show (true && decide (4 = 4) && true && decide ((g.parts.map Pt.a).length ≤ 6) && (partsA (g.parts.map Pt.a) ([], 0)).1 && rowsA 6 (.tup (g.ins.map A.str)) && decide ((partsA (g.parts.map Pt.a) ([], 0)).2.2 + (wordsA (.tup (g.ins.map A.str))).length ≤ 80) &&
    (bodyA (partsA (g.parts.map Pt.a) ([], 0)).2.1 3 (.tup (aIts g.body)) (wordsA (.tup (g.ins.map A.str)), (partsA (g.parts.map Pt.a) ([], 0)).2.2 + (wordsA (.tup (g.ins.map A.str))).length)).1 && namesA 4 (.tup (g.outs.map A.str)) &&
    decide ((bodyA (partsA (g.parts.map Pt.a) ([], 0)).2.1 3 (.tup (aIts g.body)) (wordsA (.tup (g.ins.map A.str)), (partsA (g.parts.map Pt.a) ([], 0)).2.2 + (wordsA (.tup (g.ins.map A.str))).length)).2.2 + (wordsA (.tup (g.outs.map A.str))).length ≤ 80) &&
    (wordsA (.tup (g.outs.map A.str))).all fun w => decide (w ∈ (bodyA (partsA (g.parts.map Pt.a) ([], 0)).2.1 3 (.tup (aIts g.body)) (wordsA (.tup (g.ins.map A.str)), (partsA (g.parts.map Pt.a) ([], 0)).2.2 + (wordsA (.tup (g.ins.map A.str))).length)).2.1)) = true
  rw [ep]
  simp only [words_map, List.nil_append, Nat.zero_add]
  rw [eb, hr, names_map h.o1 (by omega) fun w hw => (h.outs w hw).1, List.length_map, decide_eq_true p6, decide_eq_true (show sizePts g.parts + g.ins.length ≤ 80 by omega), decide_eq_true (show sizePts g.parts + g.ins.length + sizeIts g.body + g.outs.length ≤ 80 by omega)]
  simp only [decide_true, Bool.and_self, Bool.true_and]
  exact List.all_eq_true.mpr fun w hw => decide_eq_true (h.outs w hw).2
end D

namespace D
open PySem PySem.Spec PyProof.Rows L2
mutual
def gdA (zs : List Addr) : A → Prop
  | .non => True
  | .bl _ => True
  | .int i => i.natAbs.log2 < 1920
  | .str w => w.length ≤ 1000 ∧ PyData.strOk w = true
  | .tup xs => xs.length ≤ 1000 ∧ gds zs xs
  | .lst xs => xs.length ≤ 1000 ∧ gds zs xs
  | .loc p => p ∈ zs
  | _ => False
def gds (zs : List Addr) : List A → Prop
  | [] => True
  | x :: xs => gdA zs x ∧ gds zs xs
end
section
variable {zs : List Addr}
theorem gds_mem : ∀ {xs : List A}, gds zs xs → ∀ x ∈ xs, gdA zs x
  | y :: xs, h, x, hx => by
    simp only [gds] at h
    rcases List.mem_cons.mp hx with rfl | hx
    · exact h.1
    · exact gds_mem h.2 x hx
theorem gds_of : ∀ {xs : List A}, (∀ x ∈ xs, gdA zs x) → gds zs xs
  | [], _ => trivial
  | y :: xs, h => by simp only [gds]; exact ⟨h y (.head _), gds_of fun x hx => h x (.tail _ hx)⟩
mutual
theorem gd_up {zs2 : List Addr} (u : ∀ p ∈ zs, p ∈ zs2) : ∀ {x : A}, gdA zs x → gdA zs2 x
  | .non, _ => trivial
  | .bl _, _ => trivial
  | .int _, h => by simp only [gdA] at h ⊢; exact h
  | .str _, h => by simp only [gdA] at h ⊢; exact h
  | .tup xs, h => by simp only [gdA] at h ⊢; exact ⟨h.1, gds_up u h.2⟩
  | .lst xs, h => by simp only [gdA] at h ⊢; exact ⟨h.1, gds_up u h.2⟩
  | .loc p, h => by simp only [gdA] at h ⊢; exact u p h
  | .ty _, h => by simp only [gdA] at h
  | .fls _, h => by simp only [gdA] at h
theorem gds_up {zs2 : List Addr} (u : ∀ p ∈ zs, p ∈ zs2) : ∀ {xs : List A}, gds zs xs → gds zs2 xs
  | [], _ => trivial
  | x :: xs, h => by simp only [gds] at h ⊢; exact ⟨gd_up u h.1, gds_up u h.2⟩
end
mutual
theorem gd_show : ∀ {x : A}, gdA zs x → isD x = true → isShow x = true
  | .non, _, _ => rfl
  | .bl _, _, _ => rfl
  | .int _, h, _ => by simp only [gdA] at h; simp only [isShow, decide_eq_true_eq]; exact h
  | .str _, _, _ => rfl
  | .tup xs, h, d => by simp only [gdA] at h; simp only [isD] at d; simp only [isShow]; exact gds_show h.2 d
  | .lst xs, h, d => by simp only [gdA] at h; simp only [isD] at d; simp only [isShow]; exact gds_show h.2 d
  | .loc p, _, d => by simp [isD] at d
  | .ty _, h, _ => by simp only [gdA] at h
  | .fls _, h, _ => by simp only [gdA] at h
theorem gds_show : ∀ {xs : List A}, gds zs xs → isDs xs = true → isShows xs = true
  | [], _, _ => rfl
  | x :: xs, h, d => by
    simp only [gds] at h
    simp only [isDs, Bool.and_eq_true] at d
    simp only [isShows, gd_show h.1 d.1, gds_show h.2 d.2, Bool.and_self]
end
theorem gd_tup {xs : List A} (h : gdA zs (.tup xs)) : xs.length ≤ 1000 ∧ ∀ x ∈ xs, gdA zs x := by
  simp only [gdA] at h
  exact ⟨h.1, gds_mem h.2⟩
theorem gd_get {x : A} (h : gdA zs x) (i : Nat) : gdA zs ((tupOf x).getD i .non) := by
  rw [List.getD_eq_getElem?_getD]
  cases x with
  | tup xs =>
    show gdA zs (xs[i]?.getD .non)
    cases e : xs[i]? with
    | none => trivial
    | some y => exact (gd_tup h).2 y (List.mem_of_getElem? e)
  | _ => trivial
theorem gd_of {xs : List A} (hl : xs.length ≤ 1000) (h : ∀ x ∈ xs, gdA zs x) : gdA zs (.tup xs) := by
  simp only [gdA]; exact ⟨hl, gds_of h⟩
end
def ODDC : List A := [.non, .bl true, .bl false, .int 0, .int 1, .int (-1), .int 8, .int (-8), .int 9, .int (-9), .int 200, .int 201, .str "", .str "a", .str "zzq", .str "A", .str "abcdefghi", .str "in", .str "plus",
  .str "copy", .str "pick", .str "power", .str "call", .str "repeat", .str "row", .str "end", .tup [], .tup [.int 1, .int 2], .tup [.int 2, .int 4], .tup [.int 1, .int 0], .tup [.int 0, .int 1],
  .tup [.bl true, .int 1], .lst [], .tup [.str "a"], .tup [.str "row", .str "a", .str "copy", .tup [.tup [.int 1, .int 1]]], .tup [.str "repeat", .int 2, .tup []], .tup [.int 1, .int (-2)], .str "size"]
inductive OddR (zs : List Addr) : A → A → Prop
  | cut (xs : List A) (i : Nat) : OddR zs (.tup xs) (.tup (xs.take i ++ xs.drop (i + 1)))
  | dup (xs : List A) (i : Nat) : OddR zs (.tup xs) (.tup (xs.take i ++ (xs.drop i).take 1 ++ xs.drop i))
  | rev (xs : List A) : OddR zs (.tup xs) (.tup xs.reverse)
  | lst (xs : List A) : OddR zs (.tup xs) (.lst xs)
  | sub (xs : List A) (y : A) : y ∈ xs → OddR zs (.tup xs) y
  | more (xs : List A) : OddR zs (.tup xs) (.tup (xs ++ [.non]))
  | const (x c : A) : c ∈ ODDC → OddR zs x c
  | dict (x : A) (p : Addr) : p ∈ zs → OddR zs x (.loc p)
inductive PutR (zs : List Addr) : A → A → Prop
  | odd {x y : A} : OddR zs x y → PutR zs x y
  | within (as bs : List A) {x y : A} : PutR zs x y → PutR zs (.tup (as ++ x :: bs)) (.tup (as ++ y :: bs))
theorem OddR.up {zs zs2 : List Addr} (u : ∀ p ∈ zs, p ∈ zs2) {x y : A} (h : OddR zs x y) : OddR zs2 x y := by
  cases h with
  | cut xs i => exact .cut xs i
  | dup xs i => exact .dup xs i
  | rev xs => exact .rev xs
  | lst xs => exact .lst xs
  | sub xs y hy => exact .sub xs y hy
  | more xs => exact .more xs
  | const _ _ hc => exact .const _ _ hc
  | dict _ p hp => exact .dict _ p (u p hp)
theorem PutR.up {zs zs2 : List Addr} (u : ∀ p ∈ zs, p ∈ zs2) {x y : A} (h : PutR zs x y) : PutR zs2 x y := by
  induction h with
  | odd h => exact .odd (h.up u)
  | within as bs _ ih => exact .within as bs ih
theorem oddc_b : ∀ c ∈ ODDC, (tupOf c).length ≤ 4 ∧ deep c ≤ 3 ∧ shl c ≤ 200 := by decide +kernel
theorem oddc_gd {zs : List Addr} : ∀ c ∈ ODDC, gdA zs c := by
  have w : ∀ t : Str, t.length ≤ 1000 → PyData.strOk t = true → gdA zs (.str t) := fun t a b => by simp only [gdA]; exact ⟨a, b⟩
  intro c hc
  simp only [ODDC, List.mem_cons, List.not_mem_nil, or_false] at hc
  rcases hc with rfl | rfl | rfl | rfl | rfl | rfl | rfl | rfl | rfl | rfl | rfl | rfl | rfl | rfl | rfl | rfl | rfl | rfl | rfl | rfl | rfl | rfl | rfl | rfl | rfl | rfl | rfl | rfl | rfl | rfl | rfl | rfl | rfl | rfl | rfl | rfl | rfl | rfl <;>
    (simp only [gdA, gds, and_true, true_and]; try decide +kernel)
theorem oddc_sh {n : Nat} (hn : 4 ≤ n) : ∀ c ∈ ODDC, shA n c := by
  intro c hc
  simp only [ODDC, List.mem_cons, List.not_mem_nil, or_false] at hc
  rcases hc with rfl | rfl | rfl | rfl | rfl | rfl | rfl | rfl | rfl | rfl | rfl | rfl | rfl | rfl | rfl | rfl | rfl | rfl | rfl | rfl | rfl | rfl | rfl | rfl | rfl | rfl | rfl | rfl | rfl | rfl | rfl | rfl | rfl | rfl | rfl | rfl | rfl | rfl <;>
    (simp only [shA, shs, tupOf, List.length_cons, List.length_nil, and_true, true_and]; try omega)
theorem take_mem {xs : List A} {i : Nat} : ∀ x ∈ xs.take i ++ xs.drop (i + 1), x ∈ xs := fun x hx => by
  rcases List.mem_append.mp hx with hx | hx
  · exact List.take_subset _ _ hx
  · exact List.drop_subset _ _ hx
theorem dup_mem {xs : List A} {i : Nat} : ∀ x ∈ xs.take i ++ (xs.drop i).take 1 ++ xs.drop i, x ∈ xs := fun x hx => by
  rcases List.mem_append.mp hx with hx | hx
  · rcases List.mem_append.mp hx with hx | hx
    · exact List.take_subset _ _ hx
    · exact List.drop_subset _ _ (List.take_subset _ _ hx)
  · exact List.drop_subset _ _ hx
theorem deeps_sub {xs ys : List A} (h : ∀ y ∈ ys, y ∈ xs) : deeps ys ≤ deeps xs := deeps_le fun y hy => by
  have gen : ∀ {l : List A} {a : A}, a ∈ l → deep a ≤ deeps l := by
    intro l
    induction l with
    | nil => exact fun h => nomatch h
    | cons z l ih =>
      intro a ha
      simp only [deeps]
      rcases List.mem_cons.mp ha with rfl | ha
      · omega
      · have := ih ha; omega
  exact gen (h y hy)
theorem deeps_in : ∀ {l : List A} {a : A}, a ∈ l → deep a ≤ deeps l
  | z :: l, a, ha => by
    simp only [deeps]
    rcases List.mem_cons.mp ha with rfl | ha
    · omega
    · have := deeps_in ha; omega
theorem shls_app : ∀ (xs ys : List A), shls (xs ++ ys) = shls xs + shls ys
  | [], ys => by simp [shls]
  | x :: xs, ys => by simp only [List.cons_append, shls, shls_app xs ys]; omega
theorem shls_rev : ∀ xs : List A, shls xs.reverse = shls xs
  | [] => rfl
  | x :: xs => by rw [List.reverse_cons, shls_app, shls_rev xs]; simp only [shls]; omega
theorem shls_in : ∀ {l : List A} {a : A}, a ∈ l → shl a ≤ shls l
  | z :: l, a, ha => by
    simp only [shls]
    rcases List.mem_cons.mp ha with rfl | ha
    · omega
    · have := shls_in ha; omega
theorem shls_cut (xs : List A) (i : Nat) : shls xs = shls (xs.take i) + shls (xs.drop i) := by rw [← shls_app, List.take_append_drop]
theorem drop_le (xs : List A) (i : Nat) : shls (xs.drop i) ≤ shls xs := by rw [shls_cut xs i]; omega
theorem take_le (xs : List A) (i : Nat) : shls (xs.take i) ≤ shls xs := by rw [shls_cut xs i]; omega
theorem odd_deep {zs : List Addr} {x y : A} (h : OddR zs x y) : deep y ≤ deep x + 3 := by
  cases h with
  | cut xs i => have := deeps_sub (take_mem (xs := xs) (i := i)); simp only [deep]; omega
  | dup xs i => have := deeps_sub (dup_mem (xs := xs) (i := i)); simp only [deep]; omega
  | rev xs => have := deeps_sub (xs := xs) (ys := xs.reverse) (fun y hy => List.mem_reverse.mp hy); simp only [deep]; omega
  | lst xs => simp only [deep]; omega
  | sub xs y hy => have := deeps_in hy; simp only [deep]; omega
  | more xs =>
    have : deeps (xs ++ [.non]) ≤ deeps xs := deeps_le fun y hy => by
      rcases List.mem_append.mp hy with hy | hy
      · exact deeps_in hy
      · rw [List.mem_singleton.mp hy]; exact Nat.zero_le _
    simp only [deep]; omega
  | const _ _ hc => have := (oddc_b y hc).2.1; omega
  | dict _ p hp => simp only [deep]; omega
theorem odd_shl {zs : List Addr} {x y : A} (h : OddR zs x y) : shl y ≤ 2 * shl x + 200 := by
  cases h with
  | cut xs i =>
    have a := take_le xs i
    have b := drop_le xs (i + 1)
    simp only [shl, shls_app]; omega
  | dup xs i =>
    have a := shls_cut xs i
    have b := take_le (xs.drop i) 1
    simp only [shl, shls_app]; omega
  | rev xs => simp only [shl, shls_rev]; omega
  | lst xs => simp only [shl]; omega
  | sub xs y hy => have := shls_in hy; simp only [shl]; omega
  | more xs => simp only [shl, shls_app, shls]; omega
  | const _ _ hc => have := (oddc_b y hc).2.2; omega
  | dict _ p hp => simp only [shl]; omega
theorem odd_gd {zs : List Addr} {x y : A} (h : OddR zs x y) (hx : gdA zs x) (hl : (tupOf x).length ≤ 900) : gdA zs y := by
  cases h with
  | cut xs i => exact gd_of (by have := (gd_tup hx).1; rw [List.length_append, List.length_take, List.length_drop]; omega) fun z hz => (gd_tup hx).2 z (take_mem z hz)
  | dup xs i => exact gd_of (by have : xs.length ≤ 900 := hl; rw [List.length_append, List.length_append, List.length_take, List.length_take, List.length_drop]; omega) fun z hz => (gd_tup hx).2 z (dup_mem z hz)
  | rev xs => exact gd_of (by rw [List.length_reverse]; exact (gd_tup hx).1) fun z hz => (gd_tup hx).2 z (List.mem_reverse.mp hz)
  | lst xs => simp only [gdA] at hx ⊢; exact hx
  | sub xs y hy => exact (gd_tup hx).2 y hy
  | more xs =>
    exact gd_of (by have : xs.length ≤ 900 := hl; rw [List.length_append, List.length_singleton]; omega) fun z hz => by
      rcases List.mem_append.mp hz with hz | hz
      · exact (gd_tup hx).2 z hz
      · rw [List.mem_singleton.mp hz]; trivial
  | const _ _ hc => exact oddc_gd y hc
  | dict _ p hp => simp only [gdA]; exact hp
theorem odd_sh {zs : List Addr} {n : Nat} (hn : 4 ≤ n) {x y : A} (h : OddR zs x y) (hx : shA n x) : shA n y ∧ ((tupOf x).length ≤ n → (tupOf y).length ≤ n + 1) := by
  have up : ∀ {xs : List A}, shA n (.tup xs) → ∀ ys : List A, (∀ y ∈ ys, y ∈ xs) → shA n (.tup ys) := fun h ys hy => by
    simp only [shA] at h ⊢
    exact shs_of fun y hy2 => shs_mem h y (hy y hy2)
  cases h with
  | cut xs i => exact ⟨up hx _ take_mem, fun h => by have : xs.length ≤ n := h; show (xs.take i ++ xs.drop (i + 1)).length ≤ _; rw [List.length_append, List.length_take, List.length_drop]; omega⟩
  | dup xs i => exact ⟨up hx _ dup_mem, fun h => by have : xs.length ≤ n := h; show (xs.take i ++ (xs.drop i).take 1 ++ xs.drop i).length ≤ _; rw [List.length_append, List.length_append, List.length_take, List.length_take, List.length_drop]; omega⟩
  | rev xs => exact ⟨up hx _ fun y hy => List.mem_reverse.mp hy, fun h => by have : xs.length ≤ n := h; show (xs.reverse).length ≤ _; rw [List.length_reverse]; omega⟩
  | lst xs => exact ⟨trivial, fun _ => Nat.zero_le _⟩
  | sub xs y hy =>
    have := sh_tup hx y hy
    exact ⟨this.2, fun _ => by omega⟩
  | more xs =>
    refine ⟨?_, fun h => by have : xs.length ≤ n := h; show (xs ++ [A.non]).length ≤ _; rw [List.length_append, List.length_singleton]; omega⟩
    simp only [shA] at hx ⊢
    exact shs_of fun y hy => by
      rcases List.mem_append.mp hy with hy | hy
      · exact shs_mem hx y hy
      · rw [List.mem_singleton.mp hy]; exact ⟨Nat.zero_le _, trivial⟩
  | const _ _ hc => exact ⟨oddc_sh hn y hc, fun _ => by have := (oddc_b y hc).1; omega⟩
  | dict _ p hp => exact ⟨trivial, fun _ => Nat.zero_le _⟩
theorem sh_up {n m : Nat} (h : n ≤ m) {x : A} (hx : shA n x) : shA m x := by
  exact (A.rec (motive_1 := fun x => shA n x → shA m x) (motive_2 := fun xs => shs n xs → shs m xs) (fun _ => trivial) (fun _ _ => trivial) (fun _ _ => trivial) (fun _ _ => trivial) (fun _ _ => trivial) (fun _ _ => trivial)
    (fun xs ih h => by simp only [shA] at h ⊢; exact ih h) (fun xs ih _ => trivial) (fun xs ih _ => trivial) (fun _ => trivial)
    (fun x xs ih1 ih2 h2 => by simp only [shs] at h2 ⊢; exact ⟨⟨Nat.le_trans h2.1.1 h, ih1 h2.1.2⟩, ih2 h2.2⟩) x) hx
section
variable {zs : List Addr} {x y : A}
theorem put_deep (h : PutR zs x y) : deep y ≤ deep x + 3 := by
  induction h with
  | odd h => exact odd_deep h
  | @within as bs x y _ ih =>
    have : deeps (as ++ y :: bs) ≤ deeps (as ++ x :: bs) + 3 := deeps_le fun z hz => by
      rcases List.mem_append.mp hz with hz | hz
      · have := deeps_in (List.mem_append.mpr (.inl hz) : z ∈ as ++ x :: bs); omega
      · rcases List.mem_cons.mp hz with rfl | hz
        · have := deeps_in (List.mem_append.mpr (.inr (.head _)) : x ∈ as ++ x :: bs); omega
        · have := deeps_in (List.mem_append.mpr (.inr (.tail _ hz)) : z ∈ as ++ x :: bs); omega
    simp only [deep]; omega
theorem put_shl (h : PutR zs x y) : shl y ≤ 2 * shl x + 200 := by
  induction h with
  | odd h => exact odd_shl h
  | @within as bs x y _ ih => simp only [shl, shls_app, shls]; omega
theorem put_sh {n : Nat} (hn : 4 ≤ n) (h : PutR zs x y) : (shA n x → shA (n + 1) y) ∧ ((tupOf x).length ≤ n → shA n x → (tupOf y).length ≤ n + 1) := by
  induction h with
  | odd h => exact ⟨fun hx => sh_up (Nat.le_succ _) (odd_sh hn h hx).1, fun hl hx => (odd_sh hn h hx).2 hl⟩
  | @within as bs x y _ ih =>
    refine ⟨fun hx => ?_, fun hl _ => by show (as ++ y :: bs).length ≤ _; have : (as ++ x :: bs).length ≤ n := hl; rw [List.length_append, List.length_cons] at this ⊢; omega⟩
    simp only [shA] at hx ⊢
    refine shs_of fun z hz => ?_
    have old : ∀ z ∈ as ++ x :: bs, (tupOf z).length ≤ n + 1 ∧ shA (n + 1) z := fun z hz => by
      have := shs_mem hx z hz
      exact ⟨by omega, sh_up (Nat.le_succ _) this.2⟩
    rcases List.mem_append.mp hz with hz | hz
    · exact old z (List.mem_append.mpr (.inl hz))
    · rcases List.mem_cons.mp hz with rfl | hz
      · have := shs_mem hx x (List.mem_append.mpr (.inr (.head _)))
        exact ⟨ih.2 this.1 this.2, ih.1 this.2⟩
      · exact old z (List.mem_append.mpr (.inr (.tail _ hz)))
theorem put_rt {n : Nat} (hn : 4 ≤ n) (h : PutR zs x y) (hx : ∀ z ∈ tupOf x, shA n z) : ∀ z ∈ tupOf y, shA (n + 1) z := by
  have up : ∀ {z : A}, shA n z → shA (n + 1) z := fun h => sh_up (Nat.le_succ _) h
  cases h with
  | odd h =>
    cases h with
    | cut xs i => exact fun z hz => up (hx z (take_mem z hz))
    | dup xs i => exact fun z hz => up (hx z (dup_mem z hz))
    | rev xs => exact fun z hz => up (hx z (List.mem_reverse.mp hz))
    | lst xs => exact fun z hz => nomatch hz
    | sub xs y hy => exact fun z hz => up (sh_tup (hx y hy) z hz).2
    | more xs =>
      exact fun z hz => by
        rcases List.mem_append.mp (show z ∈ xs ++ [.non] from hz) with hz | hz
        · exact up (hx z hz)
        · rw [List.mem_singleton.mp hz]; trivial
    | const _ _ hc => exact fun z hz => up (sh_tup (oddc_sh hn y hc) z hz).2
    | dict _ p hp => exact fun z hz => nomatch hz
  | @within as bs x y h =>
    intro z hz
    rcases List.mem_append.mp (show z ∈ as ++ y :: bs from hz) with hz | hz
    · exact up (hx z (List.mem_append.mpr (.inl hz)))
    · rcases List.mem_cons.mp hz with rfl | hz
      · exact (put_sh hn h).1 (hx x (List.mem_append.mpr (.inr (.head _))))
      · exact up (hx z (List.mem_append.mpr (.inr (.tail _ hz))))
def lnA (n : Nat) (x : A) : Prop := (tupOf x).length ≤ n ∧ shA n x
theorem put_gd {n : Nat} (hn : n ≤ 900) (h : PutR zs x y) (hx : gdA zs x) (hl : lnA n x) : gdA zs y := by
  induction h with
  | odd h => exact odd_gd h hx (by have := hl.1; omega)
  | @within as bs x y _ ih =>
    have l := (gd_tup hx).1
    refine gd_of (by rw [List.length_append, List.length_cons] at l ⊢; exact l) fun z hz => ?_
    rcases List.mem_append.mp hz with hz | hz
    · exact (gd_tup hx).2 z (List.mem_append.mpr (.inl hz))
    · rcases List.mem_cons.mp hz with rfl | hz
      · have hs := hl.2
        simp only [shA] at hs
        have := shs_mem hs x (List.mem_append.mpr (.inr (.head _)))
        exact ih ((gd_tup hx).2 x (List.mem_append.mpr (.inr (.head _)))) this
      · exact (gd_tup hx).2 z (List.mem_append.mpr (.inr (.tail _ hz)))
end
end D

namespace D
open PySem PySem.Spec PyProof.Rows L2
def Zs (μ : Mu) (zs : List Addr) : Prop := ∀ p ∈ zs, μ p = some (.dic [])
theorem Zs.sub {μ μ' : Mu} {zs : List Addr} (h : Zs μ zs) (s : Sub μ μ') : Zs μ' zs := fun p hp => s _ _ (h p hp)
section
variable {μ : Mu} {zs : List Addr} {x : A}
theorem gd_ty (h : gdA zs x) (z : Zs μ zs) : ∃ nm, tyN μ x = some nm ∧ kitB nm "tuple" = some (isTupA x) ∧ kitB nm "str" = some (isStrA x) := by
  cases x with
  | non => exact ⟨"NoneType", rfl, by decide +kernel, by decide +kernel⟩
  | bl b => exact ⟨"bool", rfl, (by decide +kernel : kitB "bool" "tuple" = some false), (by decide +kernel : kitB "bool" "str" = some false)⟩
  | int i => exact ⟨"int", rfl, (by decide +kernel : kitB "int" "tuple" = some false), (by decide +kernel : kitB "int" "str" = some false)⟩
  | str w => exact ⟨"str", rfl, (by decide +kernel : kitB "str" "tuple" = some false), (by decide +kernel : kitB "str" "str" = some true)⟩
  | tup xs => exact ⟨"tuple", rfl, (by decide +kernel : kitB "tuple" "tuple" = some true), (by decide +kernel : kitB "tuple" "str" = some false)⟩
  | lst xs => exact ⟨"list", rfl, (by decide +kernel : kitB "list" "tuple" = some false), (by decide +kernel : kitB "list" "str" = some false)⟩
  | loc p =>
    simp only [gdA] at h
    exact ⟨"dict", by simp [tyN, z p h], (by decide +kernel : kitB "dict" "tuple" = some false), (by decide +kernel : kitB "dict" "str" = some false)⟩
  | ty n => simp only [gdA] at h
  | fls xs => simp only [gdA] at h
theorem gd_kd (h : gdA zs x) (z : Zs μ zs) : Kd μ x := by
  cases x with
  | non => exact ⟨"NoneType", false, rfl, by decide +kernel, fun _ => rfl, false, by decide +kernel, fun z => nomatch z⟩
  | bl b => exact ⟨"bool", true, rfl, by decide +kernel, (fun z => nomatch z), true, by decide +kernel, fun _ => rfl⟩
  | int i => exact ⟨"int", true, rfl, by decide +kernel, (fun z => nomatch z), false, by decide +kernel, fun _ => rfl⟩
  | str w => exact ⟨"str", false, rfl, by decide +kernel, fun _ => rfl, false, by decide +kernel, fun z => nomatch z⟩
  | tup xs => exact ⟨"tuple", false, rfl, by decide +kernel, fun _ => rfl, false, by decide +kernel, fun z => nomatch z⟩
  | lst xs => exact ⟨"list", false, rfl, by decide +kernel, fun _ => rfl, false, by decide +kernel, fun z => nomatch z⟩
  | loc p =>
    simp only [gdA] at h
    exact ⟨"dict", false, by simp [tyN, z p h], by decide +kernel, fun _ => rfl, false, by decide +kernel, fun z => nomatch z⟩
  | ty n => simp only [gdA] at h
  | fls xs => simp only [gdA] at h
theorem gd_fr (h : gdA zs x) (z : Zs μ zs) : FrK μ x := by
  obtain ⟨nm, a, b, _⟩ := gd_ty h z
  cases x with
  | tup xs => exact .inr ⟨xs, rfl, fun y hy => gd_kd ((gd_tup h).2 y hy) z⟩
  | _ => exact .inl ⟨nm, a, b, rfl⟩
theorem gd_nm (h : gdA zs x) (z : Zs μ zs) : ∃ (nm : String) (k : Bool), tyN μ x = some nm ∧ kitB nm "str" = some k ∧ (k = true → ∃ w, x = .str w ∧ w.length ≤ 1000) ∧ (k = false → isNm x = false) := by
  obtain ⟨nm, a, _, c⟩ := gd_ty h z
  refine ⟨nm, _, a, c, fun e => ?_, fun e => ?_⟩
  · cases x with
    | str w => simp only [gdA] at h; exact ⟨w, rfl, h.1⟩
    | _ => cases e
  · cases x with
    | str w => cases e
    | _ => rfl
theorem gd_int (h : gdA zs x) (z : Zs μ zs) : ∃ (nm : String) (k : Bool), tyN μ x = some nm ∧ kitB nm "int" = some k ∧ (k = false → wholeA x = false) ∧ ∃ k2, kitB nm "bool" = some k2 ∧ (k = true → wholeA x = !k2) := by
  obtain ⟨nm, k, r⟩ := gd_kd h z
  exact ⟨nm, k, r⟩
section
variable {X : Cx} {Q : A → Mu → Prop}
theorem wO_eqT {t : Str} (hu : X.A.units + 64 < cLine) (ht : PyData.strOk t = true) (h : gdA zs x) (z : Zs μ zs) (q : Q (.bl (tagA t x)) μ) : wO X (compareOp .Eq) x (.str t) μ Q := by
  have dt : DatOk (.str t) := ⟨by simp only [isD]; exact ht, by simp [deep]⟩
  cases x with
  | str w => exact wO_eqS q
  | non => exact wO_eqD hu ⟨rfl, by simp [deep]⟩ dt (by rw [show PyData.eqv (toD .non) (toD (.str t)) = false by simp [toD, PyData.eqv]]; exact q)
  | bl b => exact wO_eqD hu ⟨rfl, by simp [deep]⟩ dt (by rw [show PyData.eqv (toD (.bl b)) (toD (.str t)) = false by simp [toD, PyData.eqv]]; exact q)
  | int i => exact wO_eqD hu ⟨rfl, by simp [deep]⟩ dt (by rw [show PyData.eqv (toD (.int i)) (toD (.str t)) = false by simp [toD, PyData.eqv]]; exact q)
  | tup xs => exact wO_eqBox hu (.inl ⟨xs, rfl⟩) q
  | lst xs => exact wO_eqBox hu (.inr (.inl ⟨xs, rfl⟩)) q
  | loc p => simp only [gdA] at h; exact wO_eqBox hu (.inr (.inr ⟨p, [], rfl, z p h⟩)) q
  | ty n => simp only [gdA] at h
  | fls xs => simp only [gdA] at h
theorem wO_neT {t : Str} (hu : X.A.units + 64 < cLine) (ht : PyData.strOk t = true) (h : gdA zs x) (z : Zs μ zs) (q : Q (.bl (!tagA t x)) μ) : wO X (compareOp .NotEq) x (.str t) μ Q := by
  have dt : DatOk (.str t) := ⟨by simp only [isD]; exact ht, by simp [deep]⟩
  cases x with
  | str w => exact wO_neS q
  | non => exact wO_neD hu ⟨rfl, by simp [deep]⟩ dt (by rw [show PyData.eqv (toD .non) (toD (.str t)) = false by simp [toD, PyData.eqv]]; exact q)
  | bl b => exact wO_neD hu ⟨rfl, by simp [deep]⟩ dt (by rw [show PyData.eqv (toD (.bl b)) (toD (.str t)) = false by simp [toD, PyData.eqv]]; exact q)
  | int i => exact wO_neD hu ⟨rfl, by simp [deep]⟩ dt (by rw [show PyData.eqv (toD (.int i)) (toD (.str t)) = false by simp [toD, PyData.eqv]]; exact q)
  | tup xs => exact wO_neBox hu (.inl ⟨xs, rfl⟩) q
  | lst xs => exact wO_neBox hu (.inr (.inl ⟨xs, rfl⟩)) q
  | loc p => simp only [gdA] at h; exact wO_neBox hu (.inr (.inr ⟨p, [], rfl, z p h⟩)) q
  | ty n => simp only [gdA] at h
  | fls xs => simp only [gdA] at h
end
theorem tup_at {xs : List A} {i : Nat} (h : i < xs.length) : atI xs (i : Int) = some (xs.getD i .non) := by
  refine atI_pos ?_ (by omega)
  rw [Int.toNat_natCast, List.getD_eq_getElem?_getD, List.getElem?_eq_getElem h]; rfl
theorem unl_iff (ws : List Str) : decide ((((unl ws).length : Nat) : Int) = (ws.length : Nat)) = decide ws.Nodup := by
  have key : ∀ (n : Nat) (l : List Str), l.length = n → (unl l).length = l.length → l.Nodup := by
    intro n
    induction n with
    | zero => intro l h _; rw [List.length_eq_zero_iff.mp h]; exact List.nodup_nil
    | succ n ih =>
      intro l h e
      obtain ⟨m, x, rfl⟩ : ∃ m x, l = m ++ [x] := ⟨l.dropLast, l.getLast (fun z => by rw [z] at h; simp at h), (List.dropLast_concat_getLast _).symm⟩
      rw [unl_snoc] at e
      have hm : m.length = n := by simpa using h
      have le := unl_le n m hm
      by_cases hx : x ∈ unl m
      · rw [if_pos hx, List.length_append, List.length_singleton] at e; omega
      · rw [if_neg hx, List.length_append, List.length_append, List.length_singleton] at e
        rw [List.nodup_append]
        refine ⟨ih m hm (by omega), by simp, fun a ha b hb e2 => ?_⟩
        rw [List.mem_singleton.mp hb] at e2
        exact hx (mem_un.mpr (e2 ▸ ha))
  rw [decide_eq_decide]
  exact ⟨fun h => key _ ws rfl (by omega), fun h => by rw [unl_nodup _ ws rfl h]⟩
theorem all_bl {l : List A} {f : A → Bool} : ((l.map f).all id) = l.all f := by rw [List.all_map]; rfl
end
end D

namespace D
open PySem PySem.Spec PyProof.Rows L2
local macro_rules | `(tactic| walk_at "mul") => `(tactic| first | refine wO_mul (mulR (by first | decide | omega) (by first | decide | omega)) ?_ | refine wO_mul (mulL (by first | decide | omega) (by first | decide | omega)) ?_)
local macro_rules | `(tactic| walk_at "mod") => `(tactic| refine wO_mod (by first | decide | omega) ?_)
local macro_rules | `(tactic| walk_at "fdiv") => `(tactic| refine wO_fdiv (by first | decide | omega) (divS (by first | decide | omega)) ?_)
local macro_rules | `(tactic| walk_at "ix") => `(tactic| first | refine wI_tup (by rfl) ?_ | refine wI_lst (by rfl) ?_)
local macro_rules | `(tactic| walk_at "sl") => `(tactic| first | refine wSl_tup ?_ | refine wSl_lstF ?_)
local macro_rules | `(tactic| walk_at "obj") => `(tactic| refine ⟨_, _, _, rfl, by assumption, rfl, ?_⟩)
local macro_rules | `(tactic| walk_at "len") => `(tactic| first | refine wC_len (.tup _) ?_ | refine wC_len (.lst _) ?_ | refine wC_len (.loc (by assumption)) ?_)
section
variable {P : Program} {w : World} {mg : Str → Option Value} {base : Heap} {K : PySem.W.Frag} {CL CP CTL CTe CPr CPo CNV CTG CCo CS pT : Addr} {k : Nat}
abbrev s_are_names : Stmt := topS 28
abbrev N_are_names : List Str := ["thing", "most", "name"]
theorem sc_are_names : FnScope N_are_names ["thing", "most"] (defScope s_are_names) := ⟨rfl, rfl, rfl, by decide +kernel, rfl, by decide +kernel, by decide +kernel⟩
def c_are_names : AC := fun xs μ Q _ => ∃ (zs : List Addr) (x : D.A) (most : Int), xs = [x, .int most] ∧ gdA zs x ∧ Zs μ zs ∧ Q (.bl (namesA most x)) μ
theorem ok_are_names {n : Nat}  {f : Addr} {fd : FuncData} (TX : Txt K mg w CL CP CTL CTe CPr CPo CNV CTG CCo CS pT) (C_is_name : Cal P w K mg base n "is_name" c_is_name) (F : Fun K "are_names" "are_names" s_are_names f fd) : FnD P w K mg base CX0 (n + 1) f fd ["thing", "most"] c_are_names := by
  refine fnD F sc_are_names (fun xs μ Q E hc => by obtain ⟨zs, x, most, rfl, gd, hz, q⟩ := hc; rfl) (fun cdv Ao outer s H E xs μ Q E0 ar hc => ?_)
  obtain ⟨zs, x, most, rfl, gd, hz, q⟩ := hc
  obtain ⟨nm, t1, t2, _⟩ := gd_ty gd hz
  have nd := sc_are_names.nd
  refine wSs_cons (wS_ret ?_)
  refine wE_and (wE_callB (id := "isinstance") TX.b_isinstance (by decide +kernel) (wA_cons (wE_name 0 rfl (wA_cons (wE_type (n := "tuple") TX.b_tuple (by decide +kernel) (wA_nil ?_))))))
  refine wC_isi t1 t2 ?_
  refine ⟨_, rfl, and_flip (fun hk => ?_) (fun hk => ?_)⟩
  · rw [show namesA most x = false by unfold namesA; rw [hk]; rfl] at q
    exact q
  obtain ⟨ys, rfl⟩ : ∃ ys, x = .tup ys := ⟨_, tup_eq hk⟩
  obtain ⟨hl, hg⟩ := gd_tup gd
  have en : namesA most (.tup ys) = (decide ((1 : Int) ≤ (ys.length : Int)) && decide ((ys.length : Int) ≤ most) && ys.all isNm) := by
    unfold namesA
    show (true && decide (1 ≤ ys.length) && _ && _) = _
    rw [Bool.true_and, show decide (1 ≤ ys.length) = decide ((1 : Int) ≤ (ys.length : Int)) by rw [decide_eq_decide]; omega]; rfl
  rw [en] at q
  refine wE_and (wE_chain2 (wE_int (wE_callB (id := "len") TX.b_len (by decide +kernel) (wA_cons (wE_name 0 rfl (wA_nil ?_))))))
  refine wC_len (.tup _) ?_
  refine wO_le ?_
  refine ⟨_, rfl, and_flip (fun hk => ?_) (fun hk => ?_)⟩
  · rw [hk] at q; exact ⟨false, rfl, (fun z => nomatch z), fun _ => q⟩
  rw [hk, Bool.true_and] at q
  refine wE_name 1 rfl ?_
  refine wO_le ?_
  refine ⟨_, rfl, and_flip (fun hk => ?_) (fun hk => ?_)⟩
  · rw [hk] at q; exact q
  rw [hk, Bool.true_and] at q
  refine wE_one (wE_callB (id := "all") TX.b_all (by decide +kernel) (wA_cons (wE_lcF (own := [("name", 2)]) (wIt_tup (wE_name 0 rfl ⟨_, rfl, ?_⟩)) nd (blkOk_by (N := N_are_names) (sc := defScope s_are_names) (by decide +kernel)))))
  refine ⟨szOk (by omega), (ys.map isNm).map D.A.bl, by simp, fun i y z hy hz2 s0 H0 C cl fp => ?_, ?_⟩
  obtain ⟨bz, g2, rfl⟩ := map_at hz2
  obtain ⟨y2, g3, rfl⟩ := map_at g2
  obtain rfl : y = y2 := Option.some.inj (hy.symm.trans g3)
  obtain ⟨n2, k2, a1, a2, a3, a4⟩ := gd_nm (hg y (List.mem_of_getElem? hy)) hz
  refine wGw_name 2 (⟨rfl, fun s0 H0 C cl fp => (wE_cal C_is_name ar.bk (by omega) (wA_cons (wE_name 2 rfl (wA_nil ?_))))⟩) nd
  refine ⟨y, n2, k2, rfl, a1, a2, a3, a4, ?_⟩
  refine ⟨?_, .refl _⟩
  rfl
  refine wA_nil ?_
  refine wC_all (ns := ys.map isNm) rfl (.lst _) ?_
  rw [all_bl]
  exact q

abbrev s_are_unlike : Stmt := topS 29
abbrev N_are_unlike : List Str := ["names"]
theorem sc_are_unlike : FnScope N_are_unlike ["names"] (defScope s_are_unlike) := ⟨rfl, rfl, rfl, by decide +kernel, rfl, by decide +kernel, by decide +kernel⟩
def c_are_unlike : AC := fun xs μ Q _ => ∃ ws : List Str, xs = [.tup (ws.map D.A.str)] ∧ ws.length ≤ 1000 ∧ Q (.bl (decide ws.Nodup)) μ
theorem ok_are_unlike {n : Nat}  {f : Addr} {fd : FuncData} (TX : Txt K mg w CL CP CTL CTe CPr CPo CNV CTG CCo CS pT)  (F : Fun K "are_unlike" "are_unlike" s_are_unlike f fd) : FnD P w K mg base CX0 (n + 1) f fd ["names"] c_are_unlike := by
  refine fnD F sc_are_unlike (fun xs μ Q E hc => by obtain ⟨ws, rfl, h1, q⟩ := hc; rfl) (fun cdv Ao outer s H E xs μ Q E0 ar hc => ?_)
  obtain ⟨ws, rfl, h1, q⟩ := hc
  have nd := sc_are_unlike.nd
  refine wSs_cons (wS_ret (wE_cmp (wE_lenSet TX.b_len TX.b_set (wE_name 0 rfl ?_))))
  refine ⟨ws, rfl, h1, ?_⟩
  refine wE_callB (id := "len") TX.b_len (by decide +kernel) (wA_cons (wE_name 0 rfl (wA_nil ?_)))
  refine wC_len (.tup _) ?_
  rw [List.length_map]
  refine wO_eqI ?_
  rw [unl_iff]; exact q

abbrev s_is_among : Stmt := topS 30
abbrev N_is_among : List Str := ["thing", "least", "most"]
theorem sc_is_among : FnScope N_is_among ["thing", "least", "most"] (defScope s_is_among) := ⟨rfl, rfl, rfl, by decide +kernel, rfl, by decide +kernel, by decide +kernel⟩
def c_is_among : AC := fun xs μ Q _ => ∃ (zs : List Addr) (x : D.A) (j k : Int), xs = [x, .int j, .int k] ∧ gdA zs x ∧ Zs μ zs ∧ Q (.bl (amongA j k x)) μ
theorem ok_is_among {n : Nat}  {f : Addr} {fd : FuncData} (TX : Txt K mg w CL CP CTL CTe CPr CPo CNV CTG CCo CS pT) (C_is_whole : Cal P w K mg base n "is_whole" c_is_whole) (F : Fun K "is_among" "is_among" s_is_among f fd) : FnD P w K mg base CX0 (n + 1) f fd ["thing", "least", "most"] c_is_among := by
  refine fnD F sc_is_among (fun xs μ Q E hc => by obtain ⟨zs, x, j, k, rfl, gd, hz, q⟩ := hc; rfl) (fun cdv Ao outer s H E xs μ Q E0 ar hc => ?_)
  obtain ⟨zs, x, j, k, rfl, gd, hz, q⟩ := hc
  have nd := sc_is_among.nd
  refine wSs_cons (wS_ret ?_)
  refine wE_and (wE_cal C_is_whole ar (by omega) (wA_cons (wE_name 0 rfl (wA_nil ?_))))
  refine ⟨x, rfl, gd_kd gd hz, ?_⟩
  refine ⟨_, rfl, and_flip (fun hk => ?_) (fun hk => ?_)⟩
  · rw [show amongA j k x = false by cases x <;> first | rfl | (cases hk)] at q
    exact q
  obtain ⟨i, rfl⟩ : ∃ i, x = .int i := by cases x with
    | int i => exact ⟨i, rfl⟩
    | _ => cases hk
  change Q (.bl (decide (j ≤ i) && decide (i ≤ k))) μ at q
  refine wE_one (wE_chain2 (wE_name 1 rfl (wE_name 0 rfl ?_)))
  refine wO_le ?_
  refine ⟨_, rfl, and_flip (fun hk => ?_) (fun hk => ?_)⟩
  · rw [hk] at q; exact q
  rw [hk, Bool.true_and] at q
  refine wE_name 2 rfl ?_
  refine wO_le ?_
  exact q

abbrev s_is_thing : Stmt := topS 31
abbrev N_is_thing : List Str := ["thing", "told"]
theorem sc_is_thing : FnScope N_is_thing ["thing", "told"] (defScope s_is_thing) := ⟨rfl, rfl, rfl, by decide +kernel, rfl, by decide +kernel, by decide +kernel⟩
theorem isFr_fr {n d : Int} (h : Fr n d) : isFr (.tup [.int n, .int d]) = true := by simp only [isFr, Bool.and_eq_true, decide_eq_true_eq]; exact ⟨h.pos, h.low⟩
def c_is_thing : AC := fun xs μ Q _ => ∃ (zs : List Addr) (x : D.A) (t : Addr) (T : List Str), xs = [x, .loc t] ∧ gdA zs x ∧ Zs μ zs ∧ μ t = some (.dic (Tk T)) ∧ Q (.bl (thingA T x)) μ
theorem ok_is_thing {n : Nat}  {f : Addr} {fd : FuncData} (TX : Txt K mg w CL CP CTL CTe CPr CPo CNV CTG CCo CS pT) (C_is_fraction : Cal P w K mg base n "is_fraction" c_is_fraction) (F : Fun K "is_thing" "is_thing" s_is_thing f fd) : FnD P w K mg base CX0 (n + 1) f fd ["thing", "told"] c_is_thing := by
  refine fnD F sc_is_thing (fun xs μ Q E hc => by obtain ⟨zs, x, t, T, rfl, gd, hz, ht, q⟩ := hc; rfl) (fun cdv Ao outer s H E xs μ Q E0 ar hc => ?_)
  obtain ⟨zs, x, t, T, rfl, gd, hz, ht, q⟩ := hc
  obtain ⟨nm, t1, _, t2⟩ := gd_ty gd hz
  have nd := sc_is_thing.nd
  refine wSs_cons (wS_ret ?_)
  refine wE_or ?_
  refine wE.imp (Q := fun z μ' => μ = μ' ∧ z = .bl (isStrA x && decide (wdO x ∈ T))) ?_ (fun z μ' hz2 => ?_)
  refine wE_and (wE_callB (id := "isinstance") TX.b_isinstance (by decide +kernel) (wA_cons (wE_name 0 rfl (wA_cons (wE_type (n := "str") TX.b_str (by decide +kernel) (wA_nil ?_))))))
  refine wC_isi t1 t2 ?_
  refine ⟨_, rfl, and_flip (fun hk => ?_) (fun hk => ?_)⟩
  · exact ⟨rfl, by rw [hk]; rfl⟩
  obtain ⟨w, rfl⟩ : ∃ w, x = .str w := ⟨_, str_eq hk⟩
  refine wE_one (wE_inD ar (wE_name 0 rfl (wE_name 1 rfl ?_)))
  refine ⟨t, _, .inr w, rfl, ht, rfl, rfl, ?_⟩
  rw [valA_Tk]
  by_cases hw : w ∈ T
  · rw [if_pos hw, show (isStrA (.str w) && decide (wdO (.str w) ∈ T)) = true from decide_eq_true hw]; rfl
  · rw [if_neg hw, show (isStrA (.str w) && decide (wdO (.str w) ∈ T)) = false from decide_eq_false hw]; rfl
  obtain ⟨rfl, rfl⟩ := hz2
  refine ⟨_, rfl, fun hk => ?_, fun hk => ?_⟩
  · cases x with
    | str w => rw [show thingA T (.str w) = true from hk] at q; exact q
    | _ => cases hk
  refine wE_one (wE_cal C_is_fraction ar (by omega) (wA_cons (wE_name 0 rfl (wA_nil ?_))))
  refine ⟨x, rfl, gd_fr gd hz, ?_⟩
  have e : thingA T x = isFr x := by
    cases x with
    | str w => exact hk
    | _ => rfl
  rw [e] at q
  exact q

abbrev s_is_call : Stmt := topS 32
abbrev N_is_call : List Str := ["things", "told", "parts", "thing"]
theorem sc_is_call : FnScope N_is_call ["things", "told", "parts"] (defScope s_is_call) := ⟨rfl, rfl, rfl, by decide +kernel, rfl, by decide +kernel, by decide +kernel⟩
def c_is_call : AC := fun xs μ Q _ => ∃ (zs : List Addr) (ys : List D.A) (t pp : Addr) (T : List Str) (Pn : List (Str × Int)), xs = [.tup ys, .loc t, .loc pp] ∧ gdA zs (.tup ys) ∧ Zs μ zs ∧ μ t = some (.dic (Tk T)) ∧ μ pp = some (.dic (Pk Pn)) ∧ Q (.bl (callA Pn T ys)) μ
theorem ok_is_call {n : Nat}  {f : Addr} {fd : FuncData} (TX : Txt K mg w CL CP CTL CTe CPr CPo CNV CTG CCo CS pT) (C_is_thing : Cal P w K mg base n "is_thing" c_is_thing) (F : Fun K "is_call" "is_call" s_is_call f fd) : FnD P w K mg base CX0 (n + 1) f fd ["things", "told", "parts"] c_is_call := by
  refine fnD F sc_is_call (fun xs μ Q E hc => by obtain ⟨zs, ys, t, pp, T, Pn, rfl, gd, hz, ht, hp, q⟩ := hc; rfl) (fun cdv Ao outer s H E xs μ Q E0 ar hc => ?_)
  obtain ⟨zs, ys, t, pp, T, Pn, rfl, gd, hz, ht, hp, q⟩ := hc
  obtain ⟨hl, hg⟩ := gd_tup gd
  have nd := sc_is_call.nd
  refine wSs_cons (wS_if ?_)
  refine wT.imp (QB := fun k μ' => μ = μ' ∧ (k = true → callA Pn T ys = false) ∧ (k = false → ∃ c r, ys = .str c :: r ∧ valI Pn c = some (r.length : Int))) ?_ (fun k μ' hq => ?_)
  refine wT_chain (wW_or (wT_cmp (wE_name 0 rfl (wE_tup (wA_nil ⟨by show 0 ≤ sizeLine; decide, ?_⟩)))))
  refine wO_eqNone ar.u64 ?_
  refine ⟨_, rfl, ?_⟩
  refine ⟨fun hk => ?_, fun hk => ?_⟩
  · refine ⟨rfl, fun _ => ?_, (fun e => nomatch e)⟩
    cases ys with
    | nil => rfl
    | cons y r => cases hk
  obtain ⟨y, r, rfl⟩ : ∃ y r, ys = y :: r := by
    cases ys with
    | nil => cases hk
    | cons y r => exact ⟨y, r, rfl⟩
  obtain ⟨nm, t1, _, t2⟩ := gd_ty (hg y (.head _)) hz
  refine wW_or (wT_not (wT_val (wE_callB (id := "isinstance") TX.b_isinstance (by decide +kernel) (wA_cons (wE_ix (wE_name 0 rfl (wE_int ?_)))))))
  refine wI_tup (atI_pos (i := 0) (y := y) (by rfl) (by decide)) ?_
  refine wA_cons (wE_type (n := "str") TX.b_str (by decide +kernel) (wA_nil ?_))
  refine wC_isi t1 t2 ?_
  refine ⟨_, rfl, ?_⟩
  refine ⟨fun hk => ?_, fun hk => ?_⟩
  · refine ⟨rfl, fun _ => ?_, (fun e => nomatch e)⟩
    cases y with
    | str w => cases hk
    | _ => rfl
  obtain ⟨c, rfl⟩ : ∃ c, y = .str c := ⟨_, str_eq (by simpa using hk)⟩
  refine wW_or1 (wT_cmp (wE_dget2 ar (wE_name 2 rfl ?_)))
  refine ⟨pp, _, rfl, hp, ?_⟩
  refine wE_ix (wE_name 0 rfl (wE_int ?_))
  refine wI_tup (atI_pos (i := 0) (y := .str c) (by rfl) (by decide)) ?_
  refine wE_neg (wE_int ⟨_, rfl, ?_⟩)
  refine ⟨_, .inr c, hp, rfl, ?_⟩
  rw [valA_Pk]
  obtain ⟨v, ev, e2⟩ : ∃ v : Int, ((valI Pn c).map D.A.int).getD (.int (-1)) = .int v ∧ (v = (r.length : Int) ↔ valI Pn c = some (r.length : Int)) := by
    cases valI Pn c with
    | none => exact ⟨-1, rfl, ⟨fun z => by omega, fun z => by cases z⟩⟩
    | some v => exact ⟨v, rfl, ⟨fun z => by rw [z], fun z => Option.some.inj z⟩⟩
  rw [ev]
  refine wE_bin (wE_callB (id := "len") TX.b_len (by decide +kernel) (wA_cons (wE_name 0 rfl (wA_nil ?_))))
  refine wC_len (.tup _) ?_
  refine wE_int ?_
  refine wO_sub ?_
  refine wO_neI ?_
  refine ⟨_, rfl, ?_⟩
  have e : ((D.A.str c :: r).length : Int) - 1 = (r.length : Int) := by rw [List.length_cons]; omega
  rw [e]
  refine ⟨rfl, fun z => ?_, fun z => ⟨c, r, rfl, e2.mp (by simpa using z)⟩⟩
  show (decide _ && _) = false
  rw [decide_eq_false fun w => by rw [decide_eq_true (e2.mpr w)] at z; cases z]; rfl
  obtain ⟨rfl, hq1, hq2⟩ := hq
  refine ⟨fun hk => ?_, fun hk => ?_⟩
  refine wSs_cons (wS_ret (wE_bl ?_))
  rw [hq1 hk] at q; exact q
  refine wSs_nil ?_
  refine wSs_cons (wS_ret (wE_callB (id := "all") TX.b_all (by decide +kernel) (wA_cons (wE_lcF (own := [("thing", 3)]) (wIt_tup (wE_slice (wE_name 0 rfl (wE_int ⟨_, rfl, ?_⟩)))) nd (blkOk_by (N := N_is_call) (sc := defScope s_is_call) (by decide +kernel))))))
  obtain ⟨c, r, rfl, hv⟩ := hq2 hk
  refine wSl_tup ?_
  rw [show cutA (D.A.str c :: r) (some 1) none = r by rw [cut1]; rfl]
  refine ⟨_, rfl, ?_⟩
  have hr : r.length ≤ 1000 := by rw [List.length_cons] at hl; omega
  refine ⟨szOk (by omega), (r.map (thingA T)).map D.A.bl, by simp, fun i y z hy hz2 s0 H0 C cl fp => ?_, ?_⟩
  obtain ⟨bz, g2, rfl⟩ := map_at hz2
  obtain ⟨y2, g3, rfl⟩ := map_at g2
  obtain rfl : y = y2 := Option.some.inj (hy.symm.trans g3)
  refine wGw_name 3 (⟨rfl, fun s0 H0 C cl fp => (wE_cal C_is_thing ar.bk (by omega) (wA_cons (wE_name 3 rfl (wA_cons (wE_name 1 rfl (wA_nil ?_))))))⟩) nd
  refine ⟨zs, y, t, T, rfl, hg y (.tail _ (List.mem_of_getElem? hy)), hz, ht, ?_⟩
  refine ⟨?_, .refl _⟩
  rfl
  refine wA_nil ?_
  refine wC_all (ns := r.map (thingA T)) rfl (.lst _) ?_
  rw [all_bl]
  rw [show callA Pn T (.str c :: r) = r.all (thingA T) by show (decide _ && _) = _; rw [decide_eq_true hv, Bool.true_and]] at q
  exact q

abbrev s_is_doing : Stmt := topS 33
abbrev N_is_doing : List Str := ["word", "things", "told", "parts", "thing"]
theorem sc_is_doing : FnScope N_is_doing ["word", "things", "told", "parts"] (defScope s_is_doing) := ⟨rfl, rfl, rfl, by decide +kernel, rfl, by decide +kernel, by decide +kernel⟩
def c_is_doing : AC := fun xs μ Q _ => ∃ (zs : List Addr) (w ts : D.A) (t pp : Addr) (T : List Str) (Pn : List (Str × Int)), xs = [w, ts, .loc t, .loc pp] ∧ gdA zs w ∧ gdA zs ts ∧ Zs μ zs ∧ μ t = some (.dic (Tk T)) ∧ μ pp = some (.dic (Pk Pn)) ∧ Q (.bl (doingA Pn T w ts)) μ
theorem ok_is_doing {n : Nat}  {f : Addr} {fd : FuncData} (TX : Txt K mg w CL CP CTL CTe CPr CPo CNV CTG CCo CS pT) (C_is_call : Cal P w K mg base n "is_call" c_is_call) (C_is_thing : Cal P w K mg base n "is_thing" c_is_thing) (C_is_among : Cal P w K mg base n "is_among" c_is_among) (F : Fun K "is_doing" "is_doing" s_is_doing f fd) : FnD P w K mg base CX0 (n + 1) f fd ["word", "things", "told", "parts"] c_is_doing := by
  refine fnD F sc_is_doing (fun xs μ Q E hc => by obtain ⟨zs, w, ts, t, pp, T, Pn, rfl, gw, gt, hz, ht, hp, q⟩ := hc; rfl) (fun cdv Ao outer s H E xs μ Q E0 ar hc => ?_)
  obtain ⟨zs, w, ts, t, pp, T, Pn, rfl, gw, gt, hz, ht, hp, q⟩ := hc
  obtain ⟨nm, t1, _, t2⟩ := gd_ty gw hz
  obtain ⟨nm2, t3, t4, _⟩ := gd_ty gt hz
  have nd := sc_is_doing.nd
  refine wSs_cons (wS_if ?_)
  refine wT.imp (QB := fun k μ' => μ = μ' ∧ (k = true → doingA Pn T w ts = false) ∧ (k = false → ∃ wd ys, w = .str wd ∧ ts = .tup ys)) ?_ (fun k μ' hq => ?_)
  refine wT_chain (wW_or (wT_not (wT_val (wE_callB (id := "isinstance") TX.b_isinstance (by decide +kernel) (wA_cons (wE_name 0 rfl (wA_cons (wE_type (n := "str") TX.b_str (by decide +kernel) (wA_nil ?_)))))))))
  refine wC_isi t1 t2 ?_
  refine ⟨_, rfl, ?_⟩
  refine ⟨fun hk => ?_, fun hk => ?_⟩
  · refine ⟨rfl, fun _ => ?_, (fun e => nomatch e)⟩
    unfold doingA
    rw [show isStrA w = false by simpa using hk]; rfl
  refine wW_or1 (wT_not (wT_val (wE_callB (id := "isinstance") TX.b_isinstance (by decide +kernel) (wA_cons (wE_name 1 rfl (wA_cons (wE_type (n := "tuple") TX.b_tuple (by decide +kernel) (wA_nil ?_))))))))
  refine wC_isi t3 t4 ?_
  refine ⟨_, rfl, ?_⟩
  refine ⟨rfl, fun z => ?_, fun z => ⟨_, _, str_eq (by simpa using hk), tup_eq (by simpa using z)⟩⟩
  unfold doingA
  rw [show isTupA ts = false by simpa using z, Bool.and_false]; rfl
  obtain ⟨rfl, hq1, hq2⟩ := hq
  refine ⟨fun hk => ?_, fun hk => ?_⟩
  refine wSs_cons (wS_ret (wE_bl ?_))
  rw [hq1 hk] at q; exact q
  refine wSs_nil ?_
  refine wSs_cons (wS_if (wT_cmp (wE_name 0 rfl (wE_str ?_))))
  obtain ⟨wd, ys, rfl, rfl⟩ := hq2 hk
  obtain ⟨hl, hg⟩ := gd_tup gt
  change Q (.bl (doingW Pn T wd ys)) μ at q
  unfold doingW at q
  refine wO_eqS ?_
  refine ⟨_, rfl, ?_⟩
  refine ⟨fun hk => ?_, fun hk => ?_⟩
  have e : wd = "call" := of_decide_eq_true hk
  rw [if_pos e] at q
  refine wSs_cons (wS_ret (wE_cal C_is_call ar (by omega) (wA_cons (wE_name 1 rfl (wA_cons (wE_name 2 rfl (wA_cons (wE_name 3 rfl (wA_nil ?_)))))))))
  refine ⟨zs, ys, t, pp, T, Pn, rfl, gt, hz, ht, hp, ?_⟩
  exact q
  have e : wd ≠ "call" := of_decide_eq_false hk
  rw [if_neg e] at q
  refine wSs_nil ?_
  refine wSs_cons (wS_if (wT_cmp (wE_kget TX.d_TAKEN (wE_glob TX.k_TAKEN ⟨rfl, (wE_name 0 rfl (wE_neg (wE_int ⟨_, rfl, ?_⟩)))⟩))))
  refine ⟨wd, _, rfl, rfl, ?_⟩
  obtain ⟨v, ev, e2⟩ : ∃ v : Int, (valI TAKENL wd).getD (-1) = v ∧ (v = (ys.length : Int) ↔ valI TAKENL wd = some (ys.length : Int)) := by
    cases valI TAKENL wd with
    | none => exact ⟨-1, rfl, ⟨fun z => by omega, fun z => by cases z⟩⟩
    | some v => exact ⟨v, rfl, ⟨fun z => by rw [z], fun z => Option.some.inj z⟩⟩
  refine wE_callB (id := "len") TX.b_len (by decide +kernel) (wA_cons (wE_name 1 rfl (wA_nil ?_)))
  refine wC_len (.tup _) ?_
  rw [ev]
  refine wO_neI ?_
  refine ⟨_, rfl, ?_⟩
  refine ⟨fun hk => ?_, fun hk => ?_⟩
  refine wSs_cons (wS_ret (wE_bl ?_))
  rw [if_neg fun z => by rw [decide_eq_true (e2.mpr z)] at hk; cases hk] at q
  exact q
  refine wSs_nil ?_
  refine wSs_cons (wS_if (wT_cmp (wE_name 0 rfl (wE_str ?_))))
  have hv : valI TAKENL wd = some (ys.length : Int) := e2.mp (by simpa using hk)
  rw [if_pos hv] at q
  refine wO_eqS ?_
  refine ⟨_, rfl, ?_⟩
  refine ⟨fun hk => ?_, fun hk => ?_⟩
  have ep : wd = "power" := of_decide_eq_true hk
  rw [if_pos ep] at q
  have l2 : ys.length = 2 := by
    rw [ep, show valI TAKENL "power" = some 2 by decide +kernel] at hv
    have := Option.some.inj hv
    omega
  refine wSs_cons (wS_ret ?_)
  refine wE_and (wE_cal C_is_thing ar (by omega) (wA_cons (wE_ix (wE_name 1 rfl (wE_int ?_)))))
  refine wI_tup (tup_at (i := 0) (by omega)) ?_
  refine wA_cons (wE_name 2 rfl (wA_nil ?_))
  refine ⟨zs, ys.getD 0 .non, t, T, rfl, gd_get gt 0, hz, ht, ?_⟩
  refine ⟨_, rfl, and_flip (fun hk => ?_) (fun hk => ?_)⟩
  · rw [show powA T ys = false by unfold powA; rw [hk]; rfl] at q
    exact q
  rw [show powA T ys = amongA (-8) 8 (ys.getD 1 .non) by unfold powA; rw [hk]; rfl] at q
  refine wE_one (wE_cal C_is_among ar (by omega) (wA_cons (wE_ix (wE_name 1 rfl (wE_int ?_)))))
  refine wI_tup (tup_at (i := 1) (by omega)) ?_
  refine wA_cons (wE_bin (wE_int (wE_glob TX.k_MOST_POWER ?_)))
  refine wO_sub ?_
  refine wA_cons (wE_glob TX.k_MOST_POWER (wA_nil ?_))
  refine ⟨zs, ys.getD 1 .non, _, 8, rfl, gd_get gt 1, hz, ?_⟩
  exact q
  have ep : wd ≠ "power" := of_decide_eq_false hk
  rw [if_neg ep] at q
  refine wSs_nil ?_
  refine wSs_cons (wS_ret (wE_callB (id := "all") TX.b_all (by decide +kernel) (wA_cons (wE_lcF (own := [("thing", 4)]) (wIt_tup (wE_name 1 rfl ⟨_, rfl, ?_⟩)) nd (blkOk_by (N := N_is_doing) (sc := defScope s_is_doing) (by decide +kernel))))))
  refine ⟨szOk (by omega), (ys.map (thingA T)).map D.A.bl, by simp, fun i y z hy hz2 s0 H0 C cl fp => ?_, ?_⟩
  obtain ⟨bz, g2, rfl⟩ := map_at hz2
  obtain ⟨y2, g3, rfl⟩ := map_at g2
  obtain rfl : y = y2 := Option.some.inj (hy.symm.trans g3)
  refine wGw_name 4 (⟨rfl, fun s0 H0 C cl fp => (wE_cal C_is_thing ar.bk (by omega) (wA_cons (wE_name 4 rfl (wA_cons (wE_name 2 rfl (wA_nil ?_))))))⟩) nd
  refine ⟨zs, y, t, T, rfl, hg y (List.mem_of_getElem? hy), hz, ht, ?_⟩
  refine ⟨?_, .refl _⟩
  rfl
  refine wA_nil ?_
  refine wC_all (ns := ys.map (thingA T)) rfl (.lst _) ?_
  rw [all_bl]
  exact q

end
end D

namespace D
open PySem PySem.Spec PyProof.Rows L2
local macro_rules | `(tactic| walk_at "mul") => `(tactic| first | refine wO_mul (mulR (by first | decide | omega) (by first | decide | omega)) ?_ | refine wO_mul (mulL (by first | decide | omega) (by first | decide | omega)) ?_)
local macro_rules | `(tactic| walk_at "mod") => `(tactic| refine wO_mod (by first | decide | omega) ?_)
local macro_rules | `(tactic| walk_at "fdiv") => `(tactic| refine wO_fdiv (by first | decide | omega) (divS (by first | decide | omega)) ?_)
local macro_rules | `(tactic| walk_at "ix") => `(tactic| first | refine wI_tup (by rfl) ?_ | refine wI_lst (by rfl) ?_)
local macro_rules | `(tactic| walk_at "sl") => `(tactic| first | refine wSl_tup ?_ | refine wSl_lstF ?_)
local macro_rules | `(tactic| walk_at "obj") => `(tactic| refine ⟨_, _, _, rfl, by assumption, rfl, ?_⟩)
local macro_rules | `(tactic| walk_at "len") => `(tactic| first | refine wC_len (.tup _) ?_ | refine wC_len (.lst _) ?_ | refine wC_len (.loc (by assumption)) ?_)
section
variable {P : Program} {w : World} {mg : Str → Option Value} {base : Heap} {K : PySem.W.Frag} {CL CP CTL CTe CPr CPo CNV CTG CCo CS pT : Addr} {k : Nat}
abbrev s_Looked___init__ : Stmt := (bodyC (topS 34)).getD 0 (.Pass ⟨0, 0, 0, 0⟩)
abbrev N_Looked___init__ : List Str := ["self"]
theorem sc_Looked___init__ : FnScope N_Looked___init__ ["self"] (defScope s_Looked___init__) := ⟨rfl, rfl, rfl, by decide +kernel, rfl, by decide +kernel, by decide +kernel⟩
abbrev LkF (pp : Addr) (m : Int) : List (Str × D.A) := [("parts", .loc pp), ("many", .int m)]
structure Lk (CL p pp : Addr) (m : Int) (Pn : List (Str × Int)) (μ : Mu) : Prop where
  ex : ∃ dx, μ p = some (.ins CL dx (LkF pp m))
  pa : μ pp = some (.dic (Pk Pn))
  ne : pp ≠ p
def But (p : Addr) (μ μ' : Mu) : Prop := ∀ q o, q ≠ p → μ q = some o → μ' q = some o
theorem But.ls {p t : Addr} {μ μ' : Mu} (h : But p μ μ') : Ls p t μ μ' := fun q o h1 _ h3 => h q o h1 h3
theorem Lk.sub {CL p pp : Addr} {m : Int} {Pn : List (Str × Int)} {μ μ' : Mu} (h : Lk CL p pp m Pn μ) (s : Sub μ μ') : Lk CL p pp m Pn μ' := ⟨let ⟨dx, e⟩ := h.ex; ⟨dx, s _ _ e⟩, s _ _ h.pa, h.ne⟩
theorem putMany {pp : Addr} {m k : Int} : putL "many" (.int k) (LkF pp m) = LkF pp k := rfl
def c_Looked___init__ (CL : Addr) : AC := fun xs μ Q _ => ∃ (p dx : Addr), xs = [.loc p] ∧ μ p = some (.ins CL dx []) ∧ ∀ (pp : Addr) (μ' : Mu), Lk CL p pp 0 [] μ' → μ pp = none → But p μ μ' → Q .non μ'
theorem ok_Looked___init__ {n : Nat}  {f : Addr} {fd : FuncData} (TX : Txt K mg w CL CP CTL CTe CPr CPo CNV CTG CCo CS pT)  (F : Fun K "__init__" "Looked.__init__" s_Looked___init__ f fd) : FnD P w K mg base CX0 (n + 1) f fd ["self"] (c_Looked___init__ CL) := by
  refine fnD F sc_Looked___init__ (fun xs μ Q E hc => by obtain ⟨p, dx, rfl, hp, q⟩ := hc; rfl) (fun cdv Ao outer s H E xs μ Q E0 ar hc => ?_)
  obtain ⟨p, dx, rfl, hp, q⟩ := hc
  have nd := sc_Looked___init__.nd
  refine wSs_cons (wS_fld TX.cls_Looked TX.na_Looked_parts (wE_dnew ?_))
  refine fun pp npp => ?_
  have ne : pp ≠ p := fun z => by rw [z, hp] at npp; cases npp
  refine wE_name 0 rfl ?_
  refine ⟨p, dx, [], rfl, by rw [Mu.upd_ne (Ne.symm ne)]; exact hp, by decide, ?_⟩
  refine wSs_cons (wS_fld TX.cls_Looked TX.na_Looked_many (wE_int (wE_name 0 rfl ?_)))
  refine ⟨p, dx, _, rfl, Mu.upd_same, by show 1 < 1000; decide, ?_⟩
  refine wSs_nil ?_
  refine q pp _ ⟨⟨dx, Mu.upd_same⟩, by rw [Mu.upd_ne ne, Mu.upd_ne ne, Mu.upd_same]; rfl, ne⟩ npp (fun z o hz h => ?_)
  rw [Mu.upd_ne hz, Mu.upd_ne hz, Mu.upd_ne (fun e => by rw [e, npp] at h; cases h)]
  exact h

abbrev s_Looked_is_more : Stmt := (bodyC (topS 34)).getD 1 (.Pass ⟨0, 0, 0, 0⟩)
abbrev N_Looked_is_more : List Str := ["self", "many"]
theorem sc_Looked_is_more : FnScope N_Looked_is_more ["self", "many"] (defScope s_Looked_is_more) := ⟨rfl, rfl, rfl, by decide +kernel, rfl, by decide +kernel, by decide +kernel⟩
def c_Looked_is_more (CL : Addr) : AC := fun xs μ Q _ => ∃ (p pp : Addr) (m k : Nat) (Pn : List (Str × Int)), xs = [.loc p, .int (k : Int)] ∧ Lk CL p pp (m : Int) Pn μ ∧ ∀ μ' : Mu, Lk CL p pp ((m + k : Nat) : Int) Pn μ' → But p μ μ' → Q (.bl (decide (m + k ≤ 80))) μ'
theorem ok_Looked_is_more {n : Nat}  {f : Addr} {fd : FuncData} (TX : Txt K mg w CL CP CTL CTe CPr CPo CNV CTG CCo CS pT)  (F : Fun K "is_more" "Looked.is_more" s_Looked_is_more f fd) : FnD P w K mg base CX0 (n + 1) f fd ["self", "many"] (c_Looked_is_more CL) := by
  refine fnD F sc_Looked_is_more (fun xs μ Q E hc => by obtain ⟨p, pp, m, k, Pn, rfl, lk, q⟩ := hc; rfl) (fun cdv Ao outer s H E xs μ Q E0 ar hc => ?_)
  obtain ⟨p, pp, m, k, Pn, rfl, lk, q⟩ := hc
  obtain ⟨dx, hp⟩ := lk.ex
  have nd := sc_Looked_is_more.nd
  refine wSs_cons (wS_fldadd TX.cls_Looked TX.na_Looked_many (wE_name 0 rfl ?_))
  refine ⟨p, dx, _, (m : Int), rfl, hp, rfl, ?_⟩
  refine wE_name 1 rfl ?_
  refine ⟨(k : Int), dx, _, rfl, hp, by show 2 < 1000; decide, ?_⟩
  rw [putMany]
  refine wSs_cons (wS_ret (wE_cmp (wE_fld TX.cls_Looked TX.na_Looked_many (wE_name 0 rfl ?_))))
  refine ⟨p, dx, _, .int ((m : Int) + k), rfl, Mu.upd_same, rfl, ?_⟩
  refine wE_glob TX.k_MOST_SIZE ?_
  refine wO_le ?_
  rw [show decide ((m : Int) + (k : Int) ≤ 80) = decide (m + k ≤ 80) by rw [decide_eq_decide]; omega]
  refine q _ ⟨⟨dx, by rw [show (((m + k : Nat) : Nat) : Int) = (m : Int) + k by omega]; exact Mu.upd_same⟩, by rw [Mu.upd_ne lk.ne]; exact lk.pa, lk.ne⟩ (fun z o hz h => by rw [Mu.upd_ne hz]; exact h)

abbrev s_Looked_is_item : Stmt := (bodyC (topS 34)).getD 2 (.Pass ⟨0, 0, 0, 0⟩)
abbrev N_Looked_is_item : List Str := ["self", "thing", "told", "deep"]
theorem sc_Looked_is_item : FnScope N_Looked_is_item ["self", "thing", "told", "deep"] (defScope s_Looked_is_item) := ⟨rfl, rfl, rfl, by decide +kernel, rfl, by decide +kernel, by decide +kernel⟩
theorem but_at {p t : Addr} {μ μ' : Mu} {o : MO} (h : But p μ μ') (ht : t ≠ p) (e : μ t = some o) : μ' t = some o := h t o ht e
theorem Lk.upd_t {CL p pp t : Addr} {m : Int} {Pn : List (Str × Int)} {μ : Mu} {o : MO} (h : Lk CL p pp m Pn μ) (h1 : t ≠ p) (h2 : t ≠ pp) : Lk CL p pp m Pn (μ.upd t o) :=
  ⟨let ⟨dx, e⟩ := h.ex; ⟨dx, by rw [Mu.upd_ne (Ne.symm h1)]; exact e⟩, by rw [Mu.upd_ne (Ne.symm h2)]; exact h.pa, h.ne⟩
theorem Zs.ls {p t : Addr} {μ μ' : Mu} {zs : List Addr} (h : Zs μ zs) (l : Ls p t μ μ') (hp : p ∉ zs) (ht : t ∉ zs) : Zs μ' zs := fun z hz => l z _ (fun e => hp (e ▸ hz)) (fun e => ht (e ▸ hz)) (h z hz)
def recO (Pn : List (Str × Int)) (d : Nat) : Option (D.A → St → Bool × St) := if d < 3 then some (bodyA Pn (3 - (d + 1))) else none
theorem item_eq {Pn : List (Str × Int)} {d : Nat} (h : d ≤ 3) : itemA Pn (3 - d) = itemW Pn (recO Pn d) := by
  unfold recO
  by_cases c : d < 3
  · rw [if_pos c, show 3 - d = (3 - (d + 1)) + 1 by omega]; rfl
  · rw [if_neg c, show 3 - d = 0 by omega]; rfl
theorem itemW_tup {Pn : List (Str × Int)} {rec : Option (D.A → St → Bool × St)} {ys : List D.A} {T : List Str} {m : Nat} (ne : ys ≠ []) : itemW Pn rec (.tup ys) (T, m) = if 80 < m + 1 then (false, (T, m + 1)) else if tagA "repeat" (ys.getD 0 .non) = true ∧ ys.length = 3 then (if amongA 1 200 (ys.getD 1 .non) = true then (match rec with
      | none => (false, (T, m + 1))
      | some g => g (ys.getD 2 .non) (T, m + 1)) else (false, (T, m + 1))) else if tagA "row" (ys.getD 0 .non) = true ∧ ys.length = 4 then rowA Pn (T, m + 1) (ys.getD 1 .non) (ys.getD 2 .non) (ys.getD 3 .non) else (false, (T, m + 1)) := if_neg (show ¬ tupOf (.tup ys) = [] from ne)
structure LkS (CL p pp t : Addr) (zs : List Addr) (Pn : List (Str × Int)) (s : St) (μ : Mu) : Prop where
  lk : Lk CL p pp (s.2 : Int) Pn μ
  ht : μ t = some (.dic (Tk s.1))
  tp : t ≠ p
  tpp : t ≠ pp
  pz : p ∉ zs
  ppz : pp ∉ zs
  tz : t ∉ zs
  z : Zs μ zs
  len : s.1.length ≤ 10 + s.2
def c_Looked_is_body (CL : Addr) (lo : Nat) : AC := fun xs μ Q _ => ∃ (zs : List Addr) (p pp t : Addr) (Pn : List (Str × Int)) (s : St) (x : D.A) (d : Nat), xs = [.loc p, x, .loc t, .int (d : Int)] ∧ LkS CL p pp t zs Pn s μ ∧ gdA zs x ∧ lo ≤ d ∧ d ≤ 3 ∧ ∀ μ', LkS CL p pp t zs Pn (bodyA Pn (3 - d) x s).2 μ' → Ls p t μ μ' → Q (.bl (bodyA Pn (3 - d) x s).1) μ'
def c_Looked_is_item (CL : Addr) (lo : Nat) : AC := fun xs μ Q _ => ∃ (zs : List Addr) (p pp t : Addr) (Pn : List (Str × Int)) (s : St) (x : D.A) (d : Nat), xs = [.loc p, x, .loc t, .int (d : Int)] ∧ LkS CL p pp t zs Pn s μ ∧ gdA zs x ∧ lo ≤ d ∧ d ≤ 3 ∧ ∀ μ', LkS CL p pp t zs Pn (itemA Pn (3 - d) x s).2 μ' → Ls p t μ μ' → Q (.bl (itemA Pn (3 - d) x s).1) μ'
theorem ok_Looked_is_item {n : Nat} {lo : Nat} {f : Addr} {fd : FuncData} (TX : Txt K mg w CL CP CTL CTe CPr CPo CNV CTG CCo CS pT) (C_is_among : Cal P w K mg base n "is_among" c_is_among) (C_is_name : Cal P w K mg base n "is_name" c_is_name) (C_is_doing : Cal P w K mg base n "is_doing" c_is_doing) (CM_Looked_is_more : CalM P w K mg base n CL "is_more" (c_Looked_is_more CL)) (CM_Looked_is_body : CalM P w K mg base n CL "is_body" (c_Looked_is_body CL (lo + 1))) (F : Fun K "is_item" "Looked.is_item" s_Looked_is_item f fd) : FnD P w K mg base CX0 (n + 1) f fd ["self", "thing", "told", "deep"] (c_Looked_is_item CL lo) := by
  refine fnD F sc_Looked_is_item (fun xs μ Q E hc => by obtain ⟨zs, p, pp, t, Pn, ⟨T, m⟩, x, d, rfl, S, gd, hlo, hd3, q⟩ := hc; rfl) (fun cdv Ao outer s H E xs μ Q E0 ar hc => ?_)
  obtain ⟨zs, p, pp, t, Pn, ⟨T, m⟩, x, d, rfl, S, gd, hlo, hd3, q⟩ := hc
  obtain ⟨nm, t1, t2, _⟩ := gd_ty gd S.z
  rw [item_eq hd3] at q
  have fin : ∀ (b : Bool) (s : St) μ', itemW Pn (recO Pn d) x (T, m) = (b, s) → LkS CL p pp t zs Pn s μ' → Ls p t μ μ' → Q (.bl b) μ' := fun b s μ' e h1 h2 => by rw [e] at q; exact q μ' h1 h2
  have nd := sc_Looked_is_item.nd
  refine wSs_cons (wS_if ?_)
  refine wT.imp (QB := fun k μ' => (k = true → Q (.bl false) μ') ∧ (k = false → ∃ ys, x = .tup ys ∧ ys ≠ [] ∧ m + 1 ≤ 80 ∧ LkS CL p pp t zs Pn (T, m + 1) μ' ∧ But p μ μ')) ?_ (fun k μ' hq => ?_)
  refine wT_chain (wW_or (wT_not (wT_val (wE_callB (id := "isinstance") TX.b_isinstance (by decide +kernel) (wA_cons (wE_name 1 rfl (wA_cons (wE_type (n := "tuple") TX.b_tuple (by decide +kernel) (wA_nil ?_)))))))))
  refine wC_isi t1 t2 ?_
  refine ⟨_, rfl, ?_⟩
  refine ⟨fun hk => ?_, fun hk => ?_⟩
  · refine ⟨fun _ => fin false (T, m) μ ?_ S (Ls.refl _), (fun e => nomatch e)⟩
    have nt : tupOf x = [] := by cases x with
      | tup ys => cases hk
      | _ => rfl
    unfold itemW; rw [if_pos nt]
  obtain ⟨ys, rfl⟩ : ∃ ys, x = .tup ys := ⟨_, tup_eq (by simpa using hk)⟩
  refine wW_or (wT_cmp (wE_name 1 rfl (wE_tup (wA_nil ⟨by show 0 ≤ sizeLine; decide, ?_⟩))))
  refine wO_eqNone ar.u64 ?_
  refine ⟨_, rfl, ?_⟩
  refine ⟨fun hk => ?_, fun hk => ?_⟩
  · refine ⟨fun _ => fin false (T, m) μ ?_ S (Ls.refl _), (fun e => nomatch e)⟩
    have nt : tupOf (.tup ys) = [] := List.isEmpty_iff.mp hk
    unfold itemW; rw [if_pos nt]
  have ne : ys ≠ [] := fun e => by rw [e] at hk; cases hk
  refine wW_or1 (wT_not (wT_val (wE_meth TX.cls_Looked CM_Looked_is_more ar (by omega) (wE_name 0 rfl ?_))))
  obtain ⟨dx, hp⟩ := S.lk.ex
  refine ⟨p, dx, _, rfl, hp, rfl, ?_⟩
  refine wA_cons (wE_int (wA_nil ?_))
  refine ⟨p, pp, m, 1, Pn, rfl, S.lk, fun μ1 lk1 b1 => ?_⟩
  have S1 : LkS CL p pp t zs Pn (T, m + 1) μ1 := ⟨lk1, but_at b1 S.tp S.ht, S.tp, S.tpp, S.pz, S.ppz, S.tz, S.z.ls b1.ls S.pz S.tz, by have := S.len; simp only at this ⊢; omega⟩
  refine ⟨_, rfl, ?_⟩
  refine ⟨fun z => fin false (T, m + 1) μ1 ?_ S1 b1.ls, fun z => ⟨ys, rfl, ne, by simpa using z, S1, b1⟩⟩
  have c : 80 < m + 1 := by
    have := of_decide_eq_false (by simpa using z : decide (m + 1 ≤ 80) = false)
    omega
  rw [itemW_tup ne, if_pos c]
  obtain ⟨hq1, hq2⟩ := hq
  refine ⟨fun hk => ?_, fun hk => ?_⟩
  refine wSs_cons (wS_ret (wE_bl ?_))
  exact hq1 hk
  refine wSs_nil ?_
  refine wSs_cons (wS_if ?_)
  obtain ⟨ys, rfl, ne, hm, S1, b1⟩ := hq2 hk
  have pos : 0 < ys.length := List.length_pos_iff.mpr ne
  have c0 : ¬ (80 < m + 1) := by omega
  obtain ⟨hl, hg⟩ := gd_tup gd
  refine wT.imp (QB := fun k μ2 => μ' = μ2 ∧ k = decide (tagA "repeat" (ys.getD 0 .non) = true ∧ ys.length = 3)) ?_ (fun k μ2 hq => ?_)
  refine wT_chain (wW_and (wT_cmp (wE_ix (wE_name 1 rfl (wE_int ?_)))))
  refine wI_tup (tup_at (i := 0) pos) ?_
  refine wE_str ?_
  refine wO_eqT ar.u64 (by decide +kernel) (gd_get gd 0) S1.z ?_
  refine ⟨_, rfl, ?_⟩
  refine and_flip (fun hk => ?_) (fun hk => ?_)
  · exact ⟨rfl, (decide_eq_false fun z => by rw [hk] at z; cases z.1).symm⟩
  refine wW_and1 (wT_cmp (wE_callB (id := "len") TX.b_len (by decide +kernel) (wA_cons (wE_name 1 rfl (wA_nil ?_)))))
  refine wC_len (.tup _) ?_
  refine wE_int ?_
  refine wO_eqI ?_
  refine ⟨_, rfl, ?_⟩
  refine ⟨rfl, ?_⟩
  rw [decide_eq_decide]
  exact ⟨fun z => ⟨hk, by omega⟩, fun z => by omega⟩
  obtain ⟨rfl, rfl⟩ := hq
  refine ⟨fun hk => ?_, fun hk => ?_⟩
  refine wSs_cons (wS_if ?_)
  have c2 : tagA "repeat" (ys.getD 0 .non) = true ∧ ys.length = 3 := of_decide_eq_true hk
  refine wT.imp (QB := fun k μ3 => μ' = μ3 ∧ (k = false → d < 3 ∧ amongA 1 200 (ys.getD 1 .non) = true) ∧ (k = true → ¬ (d < 3 ∧ amongA 1 200 (ys.getD 1 .non) = true))) ?_ (fun k μ3 hq => ?_)
  refine wT_chain (wW_or (wT_cmp (wE_name 3 rfl (wE_glob TX.k_MOST_DEEP ?_))))
  refine wO_eqI ?_
  refine ⟨_, rfl, ?_⟩
  refine ⟨fun hk => ?_, fun hk => ?_⟩
  · exact ⟨rfl, (fun e => nomatch e), fun _ z => by have := of_decide_eq_true hk; omega⟩
  refine wW_or1 (wT_not (wT_val (wE_cal C_is_among ar (by omega) (wA_cons (wE_ix (wE_name 1 rfl (wE_int ?_)))))))
  refine wI_tup (tup_at (i := 1) (by omega)) ?_
  refine wA_cons (wE_int (wA_cons (wE_glob TX.k_MOST_TURNS (wA_nil ?_))))
  refine ⟨zs, ys.getD 1 .non, 1, 200, rfl, gd_get gd 1, S1.z, ?_⟩
  refine ⟨_, rfl, ?_⟩
  exact ⟨rfl, fun z => ⟨by have := of_decide_eq_false hk; omega, by simpa using z⟩, fun z w => by rw [w.2] at z; cases z⟩
  obtain ⟨rfl, hq1, hq2⟩ := hq
  refine ⟨fun hk => ?_, fun hk => ?_⟩
  refine wSs_cons (wS_ret (wE_bl ?_))
  refine fin false (T, m + 1) μ' ?_ S1 b1.ls
  have no := hq2 hk
  rw [itemW_tup ne, if_neg c0, if_pos c2]
  by_cases c3 : amongA 1 200 (ys.getD 1 .non) = true
  · have : ¬ d < 3 := fun z => no ⟨z, c3⟩
    refine (if_pos c3).trans ?_
    unfold recO
    rw [if_neg this]
  · exact if_neg c3
  refine wSs_nil ?_
  refine wSs_cons (wS_ret (wE_meth TX.cls_Looked CM_Looked_is_body ar (by omega) (wE_name 0 rfl ?_)))
  obtain ⟨d3, c3⟩ := hq1 hk
  obtain ⟨dx1, hp1⟩ := S1.lk.ex
  refine ⟨p, dx1, _, rfl, hp1, rfl, ?_⟩
  refine wA_cons (wE_ix (wE_name 1 rfl (wE_int ?_)))
  refine wI_tup (tup_at (i := 2) (by omega)) ?_
  refine wA_cons (wE_name 2 rfl (wA_cons (wE_bin (wE_name 3 rfl (wE_int ?_)))))
  refine wO_add ?_
  refine wA_nil ?_
  refine ⟨zs, p, pp, t, Pn, (T, m + 1), ys.getD 2 .non, d + 1, rfl, S1, gd_get gd 2, by omega, by omega, fun μ3 S3 ls3 => ?_⟩
  refine fin _ (bodyA Pn (3 - (d + 1)) (ys.getD 2 .non) (T, m + 1)).2 μ3 ?_ S3 (b1.ls.trans ls3)
  rw [itemW_tup ne, if_neg c0, if_pos c2]
  refine (if_pos c3).trans ?_
  unfold recO
  rw [if_pos d3]
  have c2 : ¬ (tagA "repeat" (ys.getD 0 .non) = true ∧ ys.length = 3) := of_decide_eq_false hk
  refine wSs_nil ?_
  refine wSs_cons (wS_if ?_)
  refine wT.imp (QB := fun k μ3 => μ' = μ3 ∧ k = !decide (tagA "row" (ys.getD 0 .non) = true ∧ ys.length = 4 ∧ isNm (ys.getD 1 .non) = true)) ?_ (fun k μ3 hq => ?_)
  refine wT_chain (wW_or (wT_cmp (wE_ix (wE_name 1 rfl (wE_int ?_)))))
  refine wI_tup (tup_at (i := 0) pos) ?_
  refine wE_str ?_
  refine wO_neT ar.u64 (by decide +kernel) (gd_get gd 0) S1.z ?_
  refine ⟨_, rfl, ?_⟩
  refine ⟨fun hk => ?_, fun hk => ?_⟩
  · refine ⟨rfl, ?_⟩
    rw [decide_eq_false fun z => by rw [z.1] at hk; cases hk]; rfl
  refine wW_or (wT_cmp (wE_callB (id := "len") TX.b_len (by decide +kernel) (wA_cons (wE_name 1 rfl (wA_nil ?_)))))
  refine wC_len (.tup _) ?_
  refine wE_int ?_
  refine wO_neI ?_
  refine ⟨_, rfl, ?_⟩
  refine ⟨fun hk => ?_, fun hk => ?_⟩
  · refine ⟨rfl, ?_⟩
    rw [decide_eq_false fun z => by rw [decide_eq_true (show (ys.length : Int) = 4 by omega)] at hk; cases hk]; rfl
  have l4 : ys.length = 4 := by have h4 : (ys.length : Int) = 4 := by simpa using hk
                                omega
  refine wW_or1 (wT_not (wT_val (wE_cal C_is_name ar (by omega) (wA_cons (wE_ix (wE_name 1 rfl (wE_int ?_)))))))
  refine wI_tup (tup_at (i := 1) (by omega)) ?_
  obtain ⟨n2, k2, a1, a2, a3, a4⟩ := gd_nm (gd_get gd 1) S1.z
  refine wA_nil ?_
  refine ⟨ys.getD 1 .non, n2, k2, rfl, a1, a2, a3, a4, ?_⟩
  refine ⟨_, rfl, ?_⟩
  refine ⟨rfl, ?_⟩
  have ek : decide (tagA "row" (ys.getD 0 .non) = true ∧ ys.length = 4 ∧ isNm (ys.getD 1 .non) = true) = isNm (ys.getD 1 .non) := by
    have h0 : tagA "row" (ys.getD 0 .non) = true := by
      have h9 : (!tagA "row" (ys.getD 0 .non)) = false := by assumption
      simpa using h9
    cases e : isNm (ys.getD 1 .non) with
    | true => exact decide_eq_true ⟨h0, l4, rfl⟩
    | false => exact decide_eq_false fun z => nomatch z.2.2
  rw [ek]
  obtain ⟨rfl, rfl⟩ := hq
  refine ⟨fun hk => ?_, fun hk => ?_⟩
  refine wSs_cons (wS_ret (wE_bl ?_))
  refine fin false (T, m + 1) μ' ?_ S1 b1.ls
  have no : ¬ (tagA "row" (ys.getD 0 .non) = true ∧ ys.length = 4 ∧ isNm (ys.getD 1 .non) = true) := of_decide_eq_false (by rw [Bool.not_eq_true'] at hk; exact hk)
  rw [itemW_tup ne, if_neg c0, if_neg c2]
  by_cases c4 : tagA "row" (ys.getD 0 .non) = true ∧ ys.length = 4
  · rw [if_pos c4]
    unfold rowA
    exact if_neg fun z => no ⟨c4.1, c4.2, z.1⟩
  · exact if_neg c4
  refine wSs_nil ?_
  refine wSs_cons (wS_if (wT_not (wT_val (wE_cal C_is_doing ar (by omega) (wA_cons (wE_ix (wE_name 1 rfl (wE_int ?_))))))))
  have c4 : tagA "row" (ys.getD 0 .non) = true ∧ ys.length = 4 ∧ isNm (ys.getD 1 .non) = true := of_decide_eq_true (by rw [Bool.not_eq_false'] at hk; exact hk)
  have c44 : tagA "row" (ys.getD 0 .non) = true ∧ ys.length = 4 := ⟨c4.1, c4.2.1⟩
  have l4 := c4.2.1
  refine wI_tup (tup_at (i := 2) (by omega)) ?_
  refine wA_cons (wE_ix (wE_name 1 rfl (wE_int ?_)))
  refine wI_tup (tup_at (i := 3) (by omega)) ?_
  refine wA_cons (wE_name 2 rfl (wA_cons (wE_fld TX.cls_Looked TX.na_Looked_parts (wE_name 0 rfl ?_))))
  obtain ⟨dx1, hp1⟩ := S1.lk.ex
  refine ⟨p, dx1, _, .loc pp, rfl, hp1, rfl, ?_⟩
  refine wA_nil ?_
  refine ⟨zs, ys.getD 2 .non, ys.getD 3 .non, t, pp, T, Pn, rfl, gd_get gd 2, gd_get gd 3, S1.z, S1.ht, S1.lk.pa, ?_⟩
  refine ⟨_, rfl, ?_⟩
  refine ⟨fun hk => ?_, fun hk => ?_⟩
  refine wSs_cons (wS_ret (wE_bl ?_))
  refine fin false (T, m + 1) μ' ?_ S1 b1.ls
  have no : doingA Pn T (ys.getD 2 .non) (ys.getD 3 .non) = false := by simpa using hk
  rw [itemW_tup ne, if_neg c0, if_neg c2, if_pos c44]
  unfold rowA
  exact if_neg fun z => by rw [no] at z; cases z.2
  refine wSs_nil ?_
  refine wSs_cons (wS_dput ar (wE_bl (wE_name 2 rfl (wE_ix (wE_name 1 rfl (wE_int ?_))))))
  have yes : doingA Pn T (ys.getD 2 .non) (ys.getD 3 .non) = true := by simpa using hk
  obtain ⟨nw, enw, hnw⟩ := nm_str c4.2.2
  have hT := S1.len
  have htp : T.length ≤ 91 := by simp only at hT; omega
  refine wI_tup (xs := ys) (y := .str nw) (by rw [← enw]; exact tup_at (i := 1) (by omega)) ?_
  refine ⟨t, _, .inr nw, rfl, S1.ht, rfl, szLt (by rw [List.length_map]; omega), ?_⟩
  rw [putA_Tk]
  refine wSs_cons (wS_ret (wE_bl ?_))
  refine fin true (insT T nw, m + 1) _ ?_ ⟨S1.lk.upd_t S1.tp S1.tpp, Mu.upd_same, S1.tp, S1.tpp, S1.pz, S1.ppz, S1.tz, fun z hz => by rw [Mu.upd_ne (fun e : z = t => S1.tz (by rw [← e]; exact hz))]; exact S1.z z hz, ?_⟩ (fun z o h1 h2 h3 => by rw [Mu.upd_ne h2]; exact b1 z o h1 h3)
  · rw [itemW_tup ne, if_neg c0, if_neg c2, if_pos c44]
    unfold rowA
    refine (if_pos ⟨c4.2.2, yes⟩).trans ?_
    rw [enw]; rfl
  · have : (insT T nw).length ≤ T.length + 1 := by unfold insT; split <;> simp
    have h9 := S.len
    simp only at h9 ⊢
    omega

abbrev s_Looked_is_body : Stmt := (bodyC (topS 34)).getD 3 (.Pass ⟨0, 0, 0, 0⟩)
abbrev N_Looked_is_body : List Str := ["self", "thing", "told", "deep", "item"]
theorem sc_Looked_is_body : FnScope N_Looked_is_body ["self", "thing", "told", "deep"] (defScope s_Looked_is_body) := ⟨rfl, rfl, rfl, by decide +kernel, rfl, by decide +kernel, by decide +kernel⟩
theorem allWith_snoc (f : D.A → St → Bool × St) : ∀ (xs : List D.A) (y : D.A) (s : St), allWith f (xs ++ [y]) s = ((allWith f xs s).1 && (f y (allWith f xs s).2).1, (f y (allWith f xs s).2).2)
  | [], y, s => by simp [allWith]
  | x :: xs, y, s => by simp only [List.cons_append, allWith, allWith_snoc f xs y, Bool.and_assoc]
theorem ok_Looked_is_body {n : Nat} {lo : Nat} {f : Addr} {fd : FuncData} (TX : Txt K mg w CL CP CTL CTe CPr CPo CNV CTG CCo CS pT) (CM_Looked_is_item : CalM P w K mg base n CL "is_item" (c_Looked_is_item CL lo)) (F : Fun K "is_body" "Looked.is_body" s_Looked_is_body f fd) : FnD P w K mg base CX0 (n + 1) f fd ["self", "thing", "told", "deep"] (c_Looked_is_body CL lo) := by
  refine fnD F sc_Looked_is_body (fun xs μ Q E hc => by obtain ⟨zs, p, pp, t, Pn, w0, x, d, rfl, S, gd, hlo, hd3, q⟩ := hc; rfl) (fun cdv Ao outer s H E xs μ Q E0 ar hc => ?_)
  obtain ⟨zs, p, pp, t, Pn, w0, x, d, rfl, S, gd, hlo, hd3, q⟩ := hc
  obtain ⟨nm, t1, t2, _⟩ := gd_ty gd S.z
  have nd := sc_Looked_is_body.nd
  refine wSs_cons (wS_ret ?_)
  refine wE_and (wE_callB (id := "isinstance") TX.b_isinstance (by decide +kernel) (wA_cons (wE_name 1 rfl (wA_cons (wE_type (n := "tuple") TX.b_tuple (by decide +kernel) (wA_nil ?_))))))
  refine wC_isi t1 t2 ?_
  refine ⟨_, rfl, and_flip (fun hk => ?_) (fun hk => ?_)⟩
  · have e : bodyA Pn (3 - d) x w0 = (false, w0) := by unfold bodyA bodyW; rw [hk]; rfl
    rw [e] at q
    exact q μ S (Ls.refl _)
  obtain ⟨ys, rfl⟩ : ∃ ys, x = .tup ys := ⟨_, tup_eq hk⟩
  obtain ⟨hl, hg⟩ := gd_tup gd
  have eb : bodyA Pn (3 - d) (.tup ys) w0 = allWith (itemA Pn (3 - d)) ys w0 := rfl
  rw [eb] at q
  refine wE_one (wE_callB (id := "all") TX.b_all (by decide +kernel) (wA_cons (wE_lc [("item", 4)] (wIt_tup (wE_name 1 rfl ⟨_, rfl, ?_⟩)) nd (blkOk_by (N := N_Looked_is_body) (sc := defScope s_Looked_is_body) (by decide +kernel)))))
  refine ⟨szOk (by omega), fun i acc μ' => ∃ bs : List Bool, acc = bs.map D.A.bl ∧ bs.all id = (allWith (itemA Pn (3 - d)) (ys.take i) w0).1 ∧ LkS CL p pp t zs Pn (allWith (itemA Pn (3 - d)) (ys.take i) w0).2 μ' ∧ Ls p t μ μ', ⟨[], rfl, rfl, S, Ls.refl _⟩, fun i y acc μ' hy hJ s1 H0 C cl fp => ?_, fun acc μ' hJ pl npl => ?_⟩
  obtain ⟨bs, rfl, hb, Si, lsi⟩ := hJ
  have esn : ys.take (i + 1) = ys.take i ++ [y] := by rw [List.take_add_one, hy]; rfl
  refine wGw_name 4 (fun s0 H0 C cl fp => (wE_meth TX.cls_Looked CM_Looked_is_item ar.bk (by omega) (wE_name 0 rfl ?_))) nd
  obtain ⟨dx, hp⟩ := Si.lk.ex
  refine ⟨p, dx, _, rfl, hp, rfl, ?_⟩
  refine wA_cons (wE_name 4 rfl (wA_cons (wE_name 2 rfl (wA_cons (wE_name 3 rfl (wA_nil ?_))))))
  refine ⟨zs, p, pp, t, Pn, _, y, d, rfl, Si, hg y (List.mem_of_getElem? hy), hlo, hd3, fun μ2 S2 ls2 => ?_⟩
  refine ⟨bs ++ [(itemA Pn (3 - d) y (allWith (itemA Pn (3 - d)) (ys.take i) w0).2).1], by rw [List.map_append]; rfl, ?_, ?_, lsi.trans ls2⟩
  · rw [esn, allWith_snoc, List.all_append, hb]; simp
  · rw [esn, allWith_snoc]; exact S2
  obtain ⟨bs, rfl, hb, Si, lsi⟩ := hJ
  rw [List.take_length] at hb Si
  have sn : Sub μ' (μ'.upd pl (.lst (bs.map D.A.bl))) := Sub.new npl
  refine wA_nil ?_
  refine wC_all (ns := bs) rfl (.loc Mu.upd_same) ?_
  rw [hb]
  exact q _ ⟨Si.lk.sub sn, sn _ _ Si.ht, Si.tp, Si.tpp, Si.pz, Si.ppz, Si.tz, Si.z.sub sn, Si.len⟩ (lsi.trans fun z o _ _ h => sn z o h)

end
end D

namespace D
open PySem PySem.Spec PyProof.Rows L2
section
variable {ys : List A} {Pn : List (Str × Int)} {m : Nat}
theorem part_no (h : ¬ (headA Pn (.tup ys) = true ∧ rowsA 4 (ys.getD 1 .non) = true)) : partA (.tup ys) (Pn, m) = (false, (Pn, m)) := if_neg h
theorem part_wide (h : headA Pn (.tup ys) = true ∧ rowsA 4 (ys.getD 1 .non) = true) (w : 80 < m + (2 + (wordsA (ys.getD 1 .non)).length)) : partA (.tup ys) (Pn, m) = (false, (Pn, m + (2 + (wordsA (ys.getD 1 .non)).length))) := (if_pos h).trans (if_pos w)
theorem part_body (h : headA Pn (.tup ys) = true ∧ rowsA 4 (ys.getD 1 .non) = true) (w : ¬ 80 < m + (2 + (wordsA (ys.getD 1 .non)).length)) : partA (.tup ys) (Pn, m) =
    if (bodyA Pn 3 (ys.getD 2 .non) (wordsA (ys.getD 1 .non), m + (2 + (wordsA (ys.getD 1 .non)).length))).1 = true ∧ isStrA (ys.getD 3 .non) = true ∧ wdO (ys.getD 3 .non) ∈ (bodyA Pn 3 (ys.getD 2 .non) (wordsA (ys.getD 1 .non), m + (2 + (wordsA (ys.getD 1 .non)).length))).2.1
    then (true, (Pn ++ [(wdO (ys.getD 0 .non), ((wordsA (ys.getD 1 .non)).length : Int))], (bodyA Pn 3 (ys.getD 2 .non) (wordsA (ys.getD 1 .non), m + (2 + (wordsA (ys.getD 1 .non)).length))).2.2))
    else (false, (Pn, (bodyA Pn 3 (ys.getD 2 .non) (wordsA (ys.getD 1 .non), m + (2 + (wordsA (ys.getD 1 .non)).length))).2.2)) := (if_pos h).trans (if_neg w)
end
theorem partsA_snoc : ∀ (xs : List A) (y : A) (s : Sp), partsA (xs ++ [y]) s = ((partsA xs s).1 && (partA y (partsA xs s).2).1, (partA y (partsA xs s).2).2)
  | [], y, s => by simp [partsA]
  | x :: xs, y, s => by simp only [List.cons_append, partsA, partsA_snoc xs y, Bool.and_assoc]
structure ProgC (x : A) (Pn : List (Str × Int)) (mp : Nat) (ws os : List Str) (b : Bool × St) : Prop where
  t : isTupA x = true
  l : (tupOf x).length = 4
  t0 : isTupA ((tupOf x).getD 0 .non) = true
  p6 : (tupOf ((tupOf x).getD 0 .non)).length ≤ 6
  ps : (partsA (tupOf ((tupOf x).getD 0 .non)) ([], 0)).1 = true
  r : rowsA 6 ((tupOf x).getD 1 .non) = true
  z1 : mp + ws.length ≤ 80
  bo : b.1 = true
  o : namesA 4 ((tupOf x).getD 3 .non) = true
  z2 : b.2.2 + os.length ≤ 80
  al : os.all (fun w => decide (w ∈ b.2.1)) = true
abbrev pOf (x : A) : Sp := (partsA (tupOf ((tupOf x).getD 0 .non)) ([], 0)).2
abbrev wOf (x : A) : List Str := wordsA ((tupOf x).getD 1 .non)
abbrev oOf (x : A) : List Str := wordsA ((tupOf x).getD 3 .non)
abbrev bOf (x : A) : Bool × St := bodyA (pOf x).1 3 ((tupOf x).getD 2 .non) (wOf x, (pOf x).2 + (wOf x).length)
theorem prog_c {x : A} : progA x = true ↔ ProgC x (pOf x).1 (pOf x).2 (wOf x) (oOf x) (bOf x) := by
  unfold progA
  simp only [Bool.and_eq_true, decide_eq_true_eq]
  constructor
  · rintro ⟨⟨⟨⟨⟨⟨⟨⟨⟨⟨h1, h2⟩, h3⟩, h4⟩, h5⟩, h6⟩, h7⟩, h8⟩, h9⟩, h10⟩, h11⟩
    exact ⟨h1, h2, h3, h4, h5, h6, h7, h8, h9, h10, h11⟩
  · rintro ⟨h1, h2, h3, h4, h5, h6, h7, h8, h9, h10, h11⟩
    exact ⟨⟨⟨⟨⟨⟨⟨⟨⟨⟨h1, h2⟩, h3⟩, h4⟩, h5⟩, h6⟩, h7⟩, h8⟩, h9⟩, h10⟩, h11⟩
theorem prog_not {x : A} (h : ¬ ProgC x (pOf x).1 (pOf x).2 (wOf x) (oOf x) (bOf x)) : progA x = false := by
  cases e : progA x with
  | false => rfl
  | true => exact absurd (prog_c.mp e) h
theorem prog_at {g : Pg} (h : g.ok) : pOf g.a = (pnPts g.parts, sizePts g.parts) ∧ wOf g.a = g.ins ∧ oOf g.a = g.outs ∧ (bOf g.a).2.2 + g.outs.length = g.size := by
  have hz := h.size
  simp only [Pg.size] at hz
  have ep := ok_parts (m := 0) h.parts (by omega)
  have e1 : pOf g.a = (pnPts g.parts, sizePts g.parts) := by
    show (partsA (g.parts.map Pt.a) ([], 0)).2 = _
    rw [ep]; simp
  have e2 : wOf g.a = g.ins := words_map g.ins
  have e3 : oOf g.a = g.outs := words_map g.outs
  refine ⟨e1, e2, e3, ?_⟩
  have eb : bodyA (pnPts g.parts) 3 (.tup (aIts g.body)) (g.ins, sizePts g.parts + g.ins.length) = (true, (toldIts g.body g.ins, sizePts g.parts + g.ins.length + sizeIts g.body)) := by
    unfold bodyA bodyW
    rw [if_pos (show isTupA (.tup (aIts g.body)) = true from rfl)]
    exact ok_items rfl h.body (by omega)
  have : bOf g.a = (true, (toldIts g.body g.ins, sizePts g.parts + g.ins.length + sizeIts g.body)) := by
    unfold bOf
    rw [e1, e2]
    exact eb
  rw [this]
  simp only [Pg.size]
end D

namespace D
open PySem PySem.Spec PyProof.Rows L2
local macro_rules | `(tactic| walk_at "mul") => `(tactic| first | refine wO_mul (mulR (by first | decide | omega) (by first | decide | omega)) ?_ | refine wO_mul (mulL (by first | decide | omega) (by first | decide | omega)) ?_)
local macro_rules | `(tactic| walk_at "mod") => `(tactic| refine wO_mod (by first | decide | omega) ?_)
local macro_rules | `(tactic| walk_at "fdiv") => `(tactic| refine wO_fdiv (by first | decide | omega) (divS (by first | decide | omega)) ?_)
local macro_rules | `(tactic| walk_at "ix") => `(tactic| first | refine wI_tup (by rfl) ?_ | refine wI_lst (by rfl) ?_)
local macro_rules | `(tactic| walk_at "sl") => `(tactic| first | refine wSl_tup ?_ | refine wSl_lstF ?_)
local macro_rules | `(tactic| walk_at "obj") => `(tactic| refine ⟨_, _, _, rfl, by assumption, rfl, ?_⟩)
local macro_rules | `(tactic| walk_at "len") => `(tactic| first | refine wC_len (.tup _) ?_ | refine wC_len (.lst _) ?_ | refine wC_len (.loc (by assumption)) ?_)
section
variable {P : Program} {w : World} {mg : Str → Option Value} {base : Heap} {K : PySem.W.Frag} {CL CP CTL CTe CPr CPo CNV CTG CCo CS pT : Addr} {k : Nat}
abbrev s_Looked_is_part : Stmt := (bodyC (topS 34)).getD 4 (.Pass ⟨0, 0, 0, 0⟩)
abbrev N_Looked_is_part : List Str := ["self", "thing", "told", "name"]
theorem sc_Looked_is_part : FnScope N_Looked_is_part ["self", "thing"] (defScope s_Looked_is_part) := ⟨rfl, rfl, rfl, by decide +kernel, rfl, by decide +kernel, by decide +kernel⟩
theorem Lk.old {CL p pp : Addr} {m : Int} {Pn : List (Str × Int)} {μ : Mu} (h : Lk CL p pp m Pn μ) {t : Addr} (n : μ t = none) : t ≠ p ∧ t ≠ pp := by
  obtain ⟨dx, e⟩ := h.ex
  have e2 := h.pa
  exact ⟨fun z => by (rw [z, e] at n; cases n), fun z => by (rw [z, e2] at n; cases n)⟩
structure LkP (CL p pp : Addr) (zs : List Addr) (s : Sp) (μ : Mu) : Prop where
  lk : Lk CL p pp (s.2 : Int) s.1 μ
  pz : p ∉ zs
  ppz : pp ∉ zs
  z : Zs μ zs
def c_Looked_is_part (CL : Addr) : AC := fun xs μ Q _ => ∃ (zs : List Addr) (p pp : Addr) (s : Sp) (x : D.A), xs = [.loc p, x] ∧ LkP CL p pp zs s μ ∧ gdA zs x ∧ s.1.length ≤ 100 ∧ ∀ μ', LkP CL p pp zs (partA x s).2 μ' → Ls p pp μ μ' → Q (.bl (partA x s).1) μ'
theorem ok_Looked_is_part {n : Nat}  {f : Addr} {fd : FuncData} (TX : Txt K mg w CL CP CTL CTe CPr CPo CNV CTG CCo CS pT) (C_is_name : Cal P w K mg base n "is_name" c_is_name) (C_are_names : Cal P w K mg base n "are_names" c_are_names) (C_are_unlike : Cal P w K mg base n "are_unlike" c_are_unlike) (CM_Looked_is_more : CalM P w K mg base n CL "is_more" (c_Looked_is_more CL)) (CM_Looked_is_body : CalM P w K mg base n CL "is_body" (c_Looked_is_body CL 0)) (F : Fun K "is_part" "Looked.is_part" s_Looked_is_part f fd) : FnD P w K mg base CX0 (n + 1) f fd ["self", "thing"] (c_Looked_is_part CL) := by
  refine fnD F sc_Looked_is_part (fun xs μ Q E hc => by obtain ⟨zs, p, pp, ⟨Pn, m⟩, x, rfl, S, gd, hP, q⟩ := hc; rfl) (fun cdv Ao outer s H E xs μ Q E0 ar hc => ?_)
  obtain ⟨zs, p, pp, ⟨Pn, m⟩, x, rfl, S, gd, hP, q⟩ := hc
  obtain ⟨nm, t1, t2, _⟩ := gd_ty gd S.z
  have fin : ∀ (b : Bool) (s : Sp) μ', partA x (Pn, m) = (b, s) → LkP CL p pp zs s μ' → Ls p pp μ μ' → Q (.bl b) μ' := fun b s μ' e h1 h2 => by rw [e] at q; exact q μ' h1 h2
  have nd := sc_Looked_is_part.nd
  refine wSs_cons (wS_if ?_)
  refine wT.imp (QB := fun k μ' => μ = μ' ∧ k = !headA Pn x) ?_ (fun k μ' hq => ?_)
  refine wT_chain (wW_or (wT_not (wT_val (wE_callB (id := "isinstance") TX.b_isinstance (by decide +kernel) (wA_cons (wE_name 1 rfl (wA_cons (wE_type (n := "tuple") TX.b_tuple (by decide +kernel) (wA_nil ?_)))))))))
  refine wC_isi t1 t2 ?_
  refine ⟨_, rfl, ?_⟩
  refine ⟨fun hk => ?_, fun hk => ?_⟩
  · refine ⟨rfl, ?_⟩
    unfold headA
    rw [show isTupA x = false by simpa using hk]; rfl
  obtain ⟨ys, rfl⟩ : ∃ ys, x = .tup ys := ⟨_, tup_eq (by simpa using hk)⟩
  refine wW_or (wT_cmp (wE_callB (id := "len") TX.b_len (by decide +kernel) (wA_cons (wE_name 1 rfl (wA_nil ?_)))))
  refine wC_len (.tup _) ?_
  refine wE_int ?_
  refine wO_neI ?_
  refine ⟨_, rfl, ?_⟩
  refine ⟨fun hk => ?_, fun hk => ?_⟩
  · refine ⟨rfl, ?_⟩
    have no : ¬ ys.length = 4 := fun e => by rw [decide_eq_true (show (ys.length : Int) = 4 by omega)] at hk; cases hk
    unfold headA
    show true = !(true && decide (ys.length = 4) && _ && _)
    rw [decide_eq_false no]; rfl
  have l4 : ys.length = 4 := by
    have h4 : (ys.length : Int) = 4 := by simpa using hk
    omega
  refine wW_or (wT_not (wT_val (wE_cal C_is_name ar (by omega) (wA_cons (wE_ix (wE_name 1 rfl (wE_int ?_)))))))
  refine wI_tup (tup_at (i := 0) (by omega)) ?_
  obtain ⟨n2, k2, a1, a2, a3, a4⟩ := gd_nm (gd_get gd 0) S.z
  refine wA_nil ?_
  refine ⟨ys.getD 0 .non, n2, k2, rfl, a1, a2, a3, a4, ?_⟩
  refine ⟨_, rfl, ?_⟩
  refine ⟨fun hk => ?_, fun hk => ?_⟩
  · refine ⟨rfl, ?_⟩
    have no : isNm (ys.getD 0 .non) = false := by simpa using hk
    unfold headA
    show true = !(true && decide (ys.length = 4) && isNm (ys.getD 0 .non) && _)
    rw [no, Bool.and_false]; rfl
  have yes : isNm (ys.getD 0 .non) = true := by simpa using hk
  obtain ⟨nw, enw, hnw⟩ := nm_str yes
  refine wW_or1 (wT_inD ar (wE_ix (wE_name 1 rfl (wE_int ?_))))
  refine wI_tup (xs := ys) (y := .str nw) (by rw [← enw]; exact tup_at (i := 0) (by omega)) ?_
  refine wE_fld TX.cls_Looked TX.na_Looked_parts (wE_name 0 rfl ?_)
  obtain ⟨dx, hp⟩ := S.lk.ex
  refine ⟨p, dx, _, .loc pp, rfl, hp, rfl, ?_⟩
  refine ⟨pp, _, .inr nw, rfl, S.lk.pa, rfl, ?_⟩
  refine ⟨rfl, ?_⟩
  rw [valA_Pk]
  unfold headA
  show _ = !(true && decide (ys.length = 4) && isNm (ys.getD 0 .non) && (valI Pn (wdO (ys.getD 0 .non))).isNone)
  rw [yes, decide_eq_true l4, enw]
  show _ = !(valI Pn nw).isNone
  cases valI Pn nw <;> rfl
  obtain ⟨rfl, rfl⟩ := hq
  refine ⟨fun hk => ?_, fun hk => ?_⟩
  refine wSs_cons (wS_ret (wE_bl ?_))
  refine fin false (Pn, m) μ ?_ S (Ls.refl _)
  have no : headA Pn x = false := by simpa using hk
  unfold partA
  exact if_neg fun z => by rw [no] at z; cases z.1
  refine wSs_nil ?_
  refine wSs_cons (wS_if ?_)
  have hd : headA Pn x = true := by simpa using hk
  obtain ⟨ys, rfl, l4, y0⟩ : ∃ ys, x = .tup ys ∧ ys.length = 4 ∧ isNm (ys.getD 0 .non) = true := by
    have h := hd
    unfold headA at h
    simp only [Bool.and_eq_true, decide_eq_true_eq] at h
    exact ⟨tupOf x, tup_eq h.1.1.1, h.1.1.2, h.1.2⟩
  obtain ⟨nw, enw, hnw⟩ := nm_str y0
  have hnew : valI Pn nw = none := by
    have h := hd
    unfold headA at h
    simp only [Bool.and_eq_true, decide_eq_true_eq] at h
    have h2 := h.2
    rw [show (tupOf (.tup ys)).getD 0 .non = .str nw from enw] at h2
    simpa [wdO] using h2
  obtain ⟨hl, hg⟩ := gd_tup gd
  obtain ⟨ws, ews⟩ : ∃ ws, ws = wordsA (ys.getD 1 .non) := ⟨_, rfl⟩
  refine wT.imp (QB := fun k μ' => (k = true → Q (.bl false) μ') ∧ (k = false → rowsA 4 (ys.getD 1 .non) = true ∧ m + (2 + ws.length) ≤ 80 ∧ Lk CL p pp ((m + (2 + ws.length) : Nat) : Int) Pn μ' ∧ But p μ μ')) ?_ (fun k μ' hq => ?_)
  refine wT_chain (wW_or (wT_not (wT_val (wE_cal C_are_names ar (by omega) (wA_cons (wE_ix (wE_name 1 rfl (wE_int ?_))))))))
  refine wI_tup (tup_at (i := 1) (by omega)) ?_
  refine wA_cons (wE_glob TX.k_MOST_PART_INS (wA_nil ?_))
  refine ⟨zs, ys.getD 1 .non, 4, rfl, gd_get gd 1, S.z, ?_⟩
  refine ⟨_, rfl, ?_⟩
  refine ⟨fun hk => ?_, fun hk => ?_⟩
  · refine ⟨fun _ => fin false (Pn, m) μ (part_no fun z => ?_) S (Ls.refl _), (fun e => nomatch e)⟩
    have h := z.2
    unfold rowsA at h
    rw [show namesA 4 (ys.getD 1 .non) = false by simpa using hk] at h
    cases h
  obtain ⟨e1, i1, i4, hns⟩ := names_str (show namesA 4 (ys.getD 1 .non) = true by simpa using hk)
  rw [← ews] at e1 i1 i4 hns
  have at1 : atI ys 1 = some (.tup (ws.map D.A.str)) := by rw [← e1]; exact tup_at (i := 1) (by omega)
  refine wW_or (wT_not (wT_val (wE_cal C_are_unlike ar (by omega) (wA_cons (wE_ix (wE_name 1 rfl (wE_int ?_)))))))
  refine wI_tup (xs := ys) (y := .tup (ws.map D.A.str)) at1 ?_
  refine wA_nil ?_
  refine ⟨ws, rfl, by omega, ?_⟩
  refine ⟨_, rfl, ?_⟩
  refine ⟨fun hk => ?_, fun hk => ?_⟩
  · refine ⟨fun _ => fin false (Pn, m) μ (part_no fun z => ?_) S (Ls.refl _), (fun e => nomatch e)⟩
    have h := z.2
    unfold rowsA at h
    rw [← ews, show decide ws.Nodup = false by simpa using hk, Bool.and_false] at h
    cases h
  have row : rowsA 4 (ys.getD 1 .non) = true := by
    unfold rowsA
    rw [← ews, show decide ws.Nodup = true by simpa using hk, Bool.and_true]
    have h9 : (!namesA 4 (ys.getD 1 .non)) = false := by assumption
    simpa using h9
  refine wW_or1 (wT_not (wT_val (wE_meth TX.cls_Looked CM_Looked_is_more ar (by omega) (wE_name 0 rfl ?_))))
  obtain ⟨dx, hp⟩ := S.lk.ex
  refine ⟨p, dx, _, rfl, hp, rfl, ?_⟩
  refine wA_cons (wE_bin (wE_int (wE_callB (id := "len") TX.b_len (by decide +kernel) (wA_cons (wE_ix (wE_name 1 rfl (wE_int ?_)))))))
  refine wI_tup (xs := ys) (y := .tup (ws.map D.A.str)) at1 ?_
  refine wA_nil ?_
  refine wC_len (.tup _) ?_
  rw [List.length_map]
  refine wO_add ?_
  refine wA_nil ?_
  refine ⟨p, pp, m, 2 + ws.length, Pn, by rw [show ((2 + ws.length : Nat) : Int) = 2 + (ws.length : Int) by omega], S.lk, fun μ1 lk1 b1 => ?_⟩
  refine ⟨_, rfl, ?_⟩
  refine ⟨fun z => ?_, fun z => ⟨row, by simpa using z, lk1, b1⟩⟩
  have w80 : 80 < m + (2 + ws.length) := by
    have := of_decide_eq_false (by simpa using z : decide (m + (2 + ws.length) ≤ 80) = false)
    omega
  refine fin false (Pn, m + (2 + ws.length)) μ1 ?_ ⟨lk1, S.pz, S.ppz, fun z hz => b1 z _ (fun e => S.pz (by rw [← e]; exact hz)) (S.z z hz)⟩ b1.ls
  rw [ews] at w80 ⊢
  exact part_wide ⟨hd, row⟩ w80
  obtain ⟨hq1, hq2⟩ := hq
  refine ⟨fun hk => ?_, fun hk => ?_⟩
  refine wSs_cons (wS_ret (wE_bl ?_))
  exact hq1 hk
  refine wSs_nil ?_
  refine wSs_cons (wS_set 2 (wE_callTy (T := "dict") TX.b_dict (by decide +kernel) (wA_cons (wE_lcF (own := [("name", 3)]) (wIt_tup (wE_ix (wE_name 1 rfl (wE_int ?_)))) nd (blkOk_by (N := N_Looked_is_part) (sc := defScope s_Looked_is_part) (by decide +kernel))))) nd)
  obtain ⟨row, hm, lk1, b1⟩ := hq2 hk
  obtain ⟨e1, i1, i4, hns, nod⟩ := rows_str row
  rw [← ews] at e1 i1 i4 hns nod
  have at1 : atI ys 1 = some (.tup (ws.map D.A.str)) := by rw [← e1]; exact tup_at (i := 1) (by omega)
  have nw80 : ¬ 80 < m + (2 + ws.length) := by omega
  refine wI_tup (xs := ys) (y := .tup (ws.map D.A.str)) at1 ?_
  refine ⟨_, rfl, ?_⟩
  refine ⟨szOk (by rw [List.length_map]; omega), (Tk ws).map (fun kv => A.tup [kA kv.1, kv.2]), by simp, fun i y z hy hz s0 H0 C cl fp => ?_, ?_⟩
  obtain ⟨w1, g1, rfl⟩ := map_at hy
  obtain ⟨kv, g2, rfl⟩ := map_at hz
  obtain ⟨w2, g3, rfl⟩ := map_at g2
  obtain rfl : w1 = w2 := Option.some.inj (g1.symm.trans g3)
  refine wGw_name 3 (⟨rfl, fun s0 H0 C cl fp => (wE_tup (wA_cons (wE_name 3 rfl (wA_cons (wE_bl (wA_nil ⟨by show 2 ≤ sizeLine; decide, ?_⟩))))))⟩) nd
  refine ⟨?_, .refl _⟩
  rfl
  refine wA_nil ?_
  refine wC_dictP rfl (.lst _) (fun t nt => ?_)
  rw [merge_Tk nod]
  have lk2 := lk1.sub (Sub.new (m := .dic (Tk ws)) nt)
  obtain ⟨tp, tpp⟩ := lk1.old nt
  have z1 : Zs μ' zs := fun z hz => b1 z _ (fun e => S.pz (by rw [← e]; exact hz)) (S.z z hz)
  have tz : t ∉ zs := fun e => by rw [z1 t e] at nt; cases nt
  have S2 : LkS CL p pp t zs Pn (ws, m + (2 + ws.length)) (μ'.upd t (.dic (Tk ws))) := ⟨lk2, Mu.upd_same, tp, tpp, S.pz, S.ppz, tz, z1.sub (Sub.new nt), by simp only; omega⟩
  have lso : ∀ {μ2 : Mu}, Ls p t (μ'.upd t (.dic (Tk ws))) μ2 → Ls p pp μ μ2 := fun ls2 z o h1 h2 h3 => by
    have h4 := b1 z o h1 h3
    have h5 : z ≠ t := fun e => by rw [e, nt] at h4; cases h4
    exact ls2 z o h1 h5 (by rw [Mu.upd_ne h5]; exact h4)
  refine wSs_cons (wS_if ?_)
  refine wT.imp (QB := fun k μ2 => Ls p t (μ'.upd t (.dic (Tk ws))) μ2 ∧ LkS CL p pp t zs Pn (bodyA Pn 3 (ys.getD 2 .non) (ws, m + (2 + ws.length))).2 μ2 ∧ k = !decide ((bodyA Pn 3 (ys.getD 2 .non) (ws, m + (2 + ws.length))).1 = true ∧ isStrA (ys.getD 3 .non) = true ∧ wdO (ys.getD 3 .non) ∈ (bodyA Pn 3 (ys.getD 2 .non) (ws, m + (2 + ws.length))).2.1)) ?_ (fun k μ2 hq => ?_)
  refine wT_chain (wW_or (wT_not (wT_val (wE_meth TX.cls_Looked CM_Looked_is_body ar (by omega) (wE_name 0 rfl ?_)))))
  obtain ⟨dx, hp⟩ := S2.lk.ex
  refine ⟨p, dx, _, rfl, hp, rfl, ?_⟩
  refine wA_cons (wE_ix (wE_name 1 rfl (wE_int ?_)))
  refine wI_tup (tup_at (i := 2) (by omega)) ?_
  refine wA_cons (wE_name 2 rfl (wA_cons (wE_int (wA_nil ?_))))
  refine ⟨zs, p, pp, t, Pn, (ws, m + (2 + ws.length)), ys.getD 2 .non, 0, rfl, S2, gd_get gd 2, Nat.le_refl _, by decide, fun μ3 S3 ls3 => ?_⟩
  refine ⟨_, rfl, ?_⟩
  refine ⟨fun hk => ?_, fun hk => ?_⟩
  · refine ⟨ls3, S3, ?_⟩
    rw [decide_eq_false fun z => by rw [z.1] at hk; cases hk]; rfl
  have bt : (bodyA Pn 3 (ys.getD 2 .non) (ws, m + (2 + ws.length))).1 = true := by simpa using hk
  refine wW_or (wT_not (wT_val (wE_callB (id := "isinstance") TX.b_isinstance (by decide +kernel) (wA_cons (wE_ix (wE_name 1 rfl (wE_int ?_)))))))
  refine wI_tup (tup_at (i := 3) (by omega)) ?_
  obtain ⟨n3, t3, _, t4⟩ := gd_ty (gd_get gd 3) S3.z
  refine wA_cons (wE_type (n := "str") TX.b_str (by decide +kernel) (wA_nil ?_))
  refine wC_isi t3 t4 ?_
  refine ⟨_, rfl, ?_⟩
  refine ⟨fun hk => ?_, fun hk => ?_⟩
  · refine ⟨ls3, S3, ?_⟩
    rw [decide_eq_false fun z => by rw [show ys.getD 3 .non = (tupOf (.tup ys)).getD 3 .non from rfl] at z; rw [z.2.1] at hk; cases hk]; rfl
  have st : isStrA (ys.getD 3 .non) = true := by
    have h9 : (!isStrA (ys.getD 3 .non)) = false := hk
    simpa using h9
  refine wW_or1 (wT_notInD ar (wE_ix (wE_name 1 rfl (wE_int ?_))))
  refine wI_tup (xs := ys) (y := .str (wdO (ys.getD 3 .non))) (by rw [← str_eq st]; exact tup_at (i := 3) (by omega)) ?_
  refine wE_name 2 rfl ?_
  refine ⟨t, _, .inr (wdO (ys.getD 3 .non)), rfl, S3.ht, rfl, ?_⟩
  refine ⟨ls3, S3, ?_⟩
  rw [valA_Tk]
  by_cases hw : wdO (ys.getD 3 .non) ∈ (bodyA Pn 3 (ys.getD 2 .non) (ws, m + (2 + ws.length))).2.1
  · rw [if_pos hw, decide_eq_true ⟨bt, st, hw⟩]; rfl
  · rw [if_neg hw, decide_eq_false fun z => hw z.2.2]; rfl
  obtain ⟨ls3, S3, rfl⟩ := hq
  refine ⟨fun hk => ?_, fun hk => ?_⟩
  refine wSs_cons (wS_ret (wE_bl ?_))
  refine fin false (Pn, (bodyA Pn 3 (ys.getD 2 .non) (ws, m + (2 + ws.length))).2.2) μ2 ?_ ⟨S3.lk, S.pz, S.ppz, S3.z⟩ (lso ls3)
  have no : ¬ ((bodyA Pn 3 (ys.getD 2 .non) (ws, m + (2 + ws.length))).1 = true ∧ isStrA (ys.getD 3 .non) = true ∧ wdO (ys.getD 3 .non) ∈ (bodyA Pn 3 (ys.getD 2 .non) (ws, m + (2 + ws.length))).2.1) := of_decide_eq_false (by rw [Bool.not_eq_true'] at hk; exact hk)
  rw [ews] at no nw80 ⊢
  rw [part_body ⟨hd, row⟩ nw80, if_neg no]
  refine wSs_nil ?_
  refine wSs_cons (wS_dput ar (wE_callB (id := "len") TX.b_len (by decide +kernel) (wA_cons (wE_ix (wE_name 1 rfl (wE_int ?_))))))
  have yes : (bodyA Pn 3 (ys.getD 2 .non) (ws, m + (2 + ws.length))).1 = true ∧ isStrA (ys.getD 3 .non) = true ∧ wdO (ys.getD 3 .non) ∈ (bodyA Pn 3 (ys.getD 2 .non) (ws, m + (2 + ws.length))).2.1 := of_decide_eq_true (by rw [Bool.not_eq_false'] at hk; exact hk)
  refine wI_tup (xs := ys) (y := .tup (ws.map D.A.str)) at1 ?_
  refine wA_nil ?_
  refine wC_len (.tup _) ?_
  rw [List.length_map]
  refine wE_fld TX.cls_Looked TX.na_Looked_parts (wE_name 0 rfl ?_)
  obtain ⟨dx, hp4⟩ := S3.lk.ex
  refine ⟨p, dx, _, .loc pp, rfl, hp4, rfl, ?_⟩
  refine wE_ix (wE_name 1 rfl (wE_int ?_))
  refine wI_tup (xs := ys) (y := .str nw) (by rw [← enw]; exact tup_at (i := 0) (by omega)) ?_
  refine ⟨pp, _, .inr nw, rfl, S3.lk.pa, rfl, szLt (by rw [List.length_map]; simp only at hP; omega), ?_⟩
  rw [putA_Pk hnew]
  refine wSs_cons (wS_ret (wE_bl ?_))
  refine fin true (Pn ++ [(nw, (ws.length : Int))], (bodyA Pn 3 (ys.getD 2 .non) (ws, m + (2 + ws.length))).2.2) _ ?_ ⟨⟨⟨dx, by rw [Mu.upd_ne (Ne.symm S3.lk.ne)]; exact hp4⟩, Mu.upd_same, S3.lk.ne⟩, S.pz, S.ppz, fun z hz => by rw [Mu.upd_ne (fun e : z = pp => S.ppz (by rw [← e]; exact hz))]; exact S3.z z hz⟩ (fun z o h1 h2 h3 => by rw [Mu.upd_ne h2]; exact lso ls3 z o h1 h2 h3)
  rw [ews] at yes nw80 ⊢
  rw [part_body ⟨hd, row⟩ nw80, if_pos yes, enw]; rfl

abbrev s_Looked_is_program : Stmt := (bodyC (topS 34)).getD 5 (.Pass ⟨0, 0, 0, 0⟩)
abbrev N_Looked_is_program : List Str := ["self", "thing", "part", "told", "name"]
theorem sc_Looked_is_program : FnScope N_Looked_is_program ["self", "thing"] (defScope s_Looked_is_program) := ⟨rfl, rfl, rfl, by decide +kernel, rfl, by decide +kernel, by decide +kernel⟩
def c_Looked_is_program (CL : Addr) : AC := fun xs μ Q _ => ∃ (zs : List Addr) (p pp : Addr) (x : D.A), xs = [.loc p, x] ∧ LkP CL p pp zs ([], 0) μ ∧ gdA zs x ∧ (∀ y ∈ tupOf x, shA 8 y) ∧
  ∀ (b : Bool) μ', b = progA x → (b = true → ∃ g : Pg, x = g.a ∧ g.ok ∧ Lk CL p pp (g.size : Int) (pnPts g.parts) μ') → Ls p pp μ μ' → Q (.bl b) μ'
theorem ok_Looked_is_program {n : Nat}  {f : Addr} {fd : FuncData} (TX : Txt K mg w CL CP CTL CTe CPr CPo CNV CTG CCo CS pT) (C_are_names : Cal P w K mg base n "are_names" c_are_names) (C_are_unlike : Cal P w K mg base n "are_unlike" c_are_unlike) (CM_Looked_is_part : CalM P w K mg base n CL "is_part" (c_Looked_is_part CL)) (CM_Looked_is_more : CalM P w K mg base n CL "is_more" (c_Looked_is_more CL)) (CM_Looked_is_body : CalM P w K mg base n CL "is_body" (c_Looked_is_body CL 0)) (F : Fun K "is_program" "Looked.is_program" s_Looked_is_program f fd) : FnD P w K mg base CX0 (n + 1) f fd ["self", "thing"] (c_Looked_is_program CL) := by
  refine fnD F sc_Looked_is_program (fun xs μ Q E hc => by obtain ⟨zs, p, pp, x, rfl, S, gd, hsh, q⟩ := hc; rfl) (fun cdv Ao outer s H E xs μ Q E0 ar hc => ?_)
  obtain ⟨zs, p, pp, x, rfl, S, gd, hsh, q⟩ := hc
  have q1 : ∀ (g : Pg) μ', x = g.a → g.ok → Lk CL p pp (g.size : Int) (pnPts g.parts) μ' → Ls p pp μ μ' → Q (.bl true) μ' := fun g μ' e ok lk ls => q true μ' (by rw [e, ok_prog ok]) (fun _ => ⟨g, e, ok, lk⟩) ls
  have q2 : ∀ μ', progA x = false → Ls p pp μ μ' → Q (.bl false) μ' := fun μ' no ls => q false μ' no.symm (fun z => nomatch z) ls
  obtain ⟨nm, t1, t2, _⟩ := gd_ty gd S.z
  have nd := sc_Looked_is_program.nd
  refine wSs_cons (wS_if ?_)
  refine wT.imp (QB := fun k μ' => μ = μ' ∧ (k = true → progA x = false) ∧ (k = false → isTupA x = true ∧ (tupOf x).length = 4 ∧ isTupA ((tupOf x).getD 0 .non) = true)) ?_ (fun k μ' hq => ?_)
  refine wT_chain (wW_or (wT_not (wT_val (wE_callB (id := "isinstance") TX.b_isinstance (by decide +kernel) (wA_cons (wE_name 1 rfl (wA_cons (wE_type (n := "tuple") TX.b_tuple (by decide +kernel) (wA_nil ?_)))))))))
  refine wC_isi t1 t2 ?_
  refine ⟨_, rfl, ?_⟩
  refine ⟨fun hk => ?_, fun hk => ?_⟩
  · exact ⟨rfl, (fun _ => prog_not fun c => (by rw [c.t] at hk; cases hk)), (fun e => nomatch e)⟩
  have xt : isTupA x = true := by simpa using hk
  obtain ⟨ys, rfl⟩ : ∃ ys, x = .tup ys := ⟨_, tup_eq xt⟩
  refine wW_or (wT_cmp (wE_callB (id := "len") TX.b_len (by decide +kernel) (wA_cons (wE_name 1 rfl (wA_nil ?_)))))
  refine wC_len (.tup _) ?_
  refine wE_int ?_
  refine wO_neI ?_
  refine ⟨_, rfl, ?_⟩
  refine ⟨fun hk => ?_, fun hk => ?_⟩
  · refine ⟨rfl, fun _ => prog_not fun c => ?_, (fun e => nomatch e)⟩
    have c4 : ys.length = 4 := c.l
    rw [decide_eq_true (show (ys.length : Int) = 4 by omega)] at hk
    cases hk
  have l4 : ys.length = 4 := by
    have h4 : (ys.length : Int) = 4 := by simpa using hk
    omega
  refine wW_or1 (wT_not (wT_val (wE_callB (id := "isinstance") TX.b_isinstance (by decide +kernel) (wA_cons (wE_ix (wE_name 1 rfl (wE_int ?_)))))))
  refine wI_tup (tup_at (i := 0) (by omega)) ?_
  obtain ⟨n3, t3, t4, _⟩ := gd_ty (gd_get gd 0) S.z
  refine wA_cons (wE_type (n := "tuple") TX.b_tuple (by decide +kernel) (wA_nil ?_))
  refine wC_isi t3 t4 ?_
  refine ⟨_, rfl, ?_⟩
  refine ⟨rfl, fun z => prog_not fun c => ?_, fun z => ⟨xt, l4, ?_⟩⟩
  · have h9 : (!isTupA ((tupOf (.tup ys)).getD 0 .non)) = true := z
    rw [c.t0] at h9; cases h9
  · have h9 : (!isTupA ((tupOf (.tup ys)).getD 0 .non)) = false := z
    simpa using h9
  obtain ⟨rfl, hq1, hq2⟩ := hq
  refine ⟨fun hk => ?_, fun hk => ?_⟩
  refine wSs_cons (wS_ret (wE_bl ?_))
  exact q2 μ (hq1 hk) (Ls.refl _)
  refine wSs_nil ?_
  refine wSs_cons (wS_if ?_)
  obtain ⟨xt, l4, z0⟩ := hq2 hk
  obtain ⟨ys, rfl⟩ : ∃ ys, x = .tup ys := ⟨_, tup_eq xt⟩
  have l4 : ys.length = 4 := l4
  obtain ⟨ps, eps⟩ : ∃ ps, ys.getD 0 .non = .tup ps := ⟨_, tup_eq z0⟩
  have etp : tupOf ((tupOf (.tup ys)).getD 0 .non) = ps := by show tupOf (ys.getD 0 .non) = ps; rw [eps]; rfl
  have gps : gdA zs (.tup ps) := by rw [← eps]; exact gd_get gd 0
  obtain ⟨hpl, hpg⟩ := gd_tup gps
  have at0 : atI ys 0 = some (.tup ps) := by rw [← eps]; exact tup_at (i := 0) (by omega)
  refine wT.imp (QB := fun k μ' => (k = true → progA (.tup ys) = false ∧ Ls p pp μ μ') ∧ (k = false → ps.length ≤ 6 ∧ (partsA ps ([], 0)).1 = true ∧ LkP CL p pp zs (partsA ps ([], 0)).2 μ' ∧ Ls p pp μ μ')) ?_ (fun k μ' hq => ?_)
  refine wT_chain (wW_or (wT_cmp (wE_callB (id := "len") TX.b_len (by decide +kernel) (wA_cons (wE_ix (wE_name 1 rfl (wE_int ?_)))))))
  refine wI_tup at0 ?_
  refine wA_nil ?_
  refine wC_len (.tup _) ?_
  refine wE_glob TX.k_MOST_PARTS ?_
  refine wO_gt ?_
  refine ⟨_, rfl, ?_⟩
  refine ⟨fun hk => ?_, fun hk => ?_⟩
  · refine ⟨fun _ => ⟨prog_not fun c => ?_, Ls.refl _⟩, (fun e => nomatch e)⟩
    have := c.p6
    rw [etp] at this
    have := of_decide_eq_true hk
    omega
  have p6 : ps.length ≤ 6 := by
    have := of_decide_eq_false hk
    omega
  refine wW_or1 (wT_not (wT_val (wE_callB (id := "all") TX.b_all (by decide +kernel) (wA_cons (wE_lc [("part", 2)] (wIt_tup (wE_ix (wE_name 1 rfl (wE_int ?_)))) nd (blkOk_by (N := N_Looked_is_program) (sc := defScope s_Looked_is_program) (by decide +kernel)))))))
  refine wI_tup at0 ?_
  refine ⟨_, rfl, ?_⟩
  refine ⟨szOk (by omega), fun i acc μ' => ∃ bs : List Bool, acc = bs.map D.A.bl ∧ bs.all id = (partsA (ps.take i) ([], 0)).1 ∧ LkP CL p pp zs (partsA (ps.take i) ([], 0)).2 μ' ∧ (partsA (ps.take i) ([], 0)).2.1.length ≤ i ∧ Ls p pp μ μ', ⟨[], rfl, rfl, S, Nat.le_refl _, Ls.refl _⟩, fun i y acc μ' hy hJ s1 H0 C cl fp => ?_, fun acc μ' hJ pl npl => ?_⟩
  obtain ⟨bs, rfl, hb, Si, hlen, lsi⟩ := hJ
  have hi6 := (List.getElem?_eq_some_iff.mp hy).1
  have esn : ps.take (i + 1) = ps.take i ++ [y] := by rw [List.take_add_one, hy]; rfl
  refine wGw_name 2 (fun s0 H0 C cl fp => (wE_meth TX.cls_Looked CM_Looked_is_part ar.bk (by omega) (wE_name 0 rfl ?_))) nd
  obtain ⟨dx, hp⟩ := Si.lk.ex
  refine ⟨p, dx, _, rfl, hp, rfl, ?_⟩
  refine wA_cons (wE_name 2 rfl (wA_nil ?_))
  refine ⟨zs, p, pp, _, y, rfl, Si, hpg y (List.mem_of_getElem? hy), by omega, fun μ2 S2 ls2 => ?_⟩
  refine ⟨bs ++ [(partA y (partsA (ps.take i) ([], 0)).2).1], by rw [List.map_append]; rfl, ?_, ?_, ?_, lsi.trans ls2⟩
  · rw [esn, partsA_snoc, List.all_append, hb]; simp
  · rw [esn, partsA_snoc]; exact S2
  · rw [esn, partsA_snoc]
    have : (partA y (partsA (ps.take i) ([], 0)).2).2.1.length ≤ (partsA (ps.take i) ([], 0)).2.1.length + 1 := by
      unfold partA
      split
      · split
        · exact Nat.le_succ _
        · split
          · show (_ ++ [_]).length ≤ _
            rw [List.length_append, List.length_singleton]; exact Nat.le_refl _
          · exact Nat.le_succ _
      · exact Nat.le_succ _
    show (partA y (partsA (ps.take i) ([], 0)).2).2.1.length ≤ i + 1
    omega
  obtain ⟨bs, rfl, hb, Si, hlen, lsi⟩ := hJ
  rw [List.take_length] at hb Si
  have sn : Sub μ' (μ'.upd pl (.lst (bs.map D.A.bl))) := Sub.new npl
  have lsn : Ls p pp μ (μ'.upd pl (.lst (bs.map D.A.bl))) := lsi.trans fun z o _ _ h => sn z o h
  refine wA_nil ?_
  refine wC_all (ns := bs) rfl (.loc Mu.upd_same) ?_
  rw [hb]
  refine ⟨_, rfl, ?_⟩
  refine ⟨fun z => ⟨prog_not fun c => ?_, lsn⟩, fun z => ⟨p6, by simpa using z, ⟨Si.lk.sub sn, Si.pz, Si.ppz, Si.z.sub sn⟩, lsn⟩⟩
  have := c.ps
  rw [etp] at this
  rw [this] at z; cases z
  obtain ⟨hq3, hq4⟩ := hq
  refine ⟨fun hk => ?_, fun hk => ?_⟩
  refine wSs_cons (wS_ret (wE_bl ?_))
  exact q2 _ (hq3 hk).1 (hq3 hk).2
  refine wSs_nil ?_
  refine wSs_cons (wS_if ?_)
  obtain ⟨p6, hps, S1, ls1⟩ := hq4 hk
  have epo : pOf (.tup ys) = (partsA ps ([], 0)).2 := by unfold pOf; rw [etp]
  obtain ⟨ws, ews⟩ : ∃ ws, ws = wOf (.tup ys) := ⟨_, rfl⟩
  obtain ⟨mp, emp⟩ : ∃ mp, mp = (partsA ps ([], 0)).2.2 := ⟨_, rfl⟩
  obtain ⟨Pn, ePn⟩ : ∃ Pn, Pn = (partsA ps ([], 0)).2.1 := ⟨_, rfl⟩
  rw [show (partsA ps ([], 0)).2 = (Pn, mp) by rw [ePn, emp]] at S1 epo
  refine wT.imp (QB := fun k μ2 => (k = true → progA (.tup ys) = false ∧ Ls p pp μ μ2) ∧ (k = false → rowsA 6 (ys.getD 1 .non) = true ∧ mp + ws.length ≤ 80 ∧ Lk CL p pp ((mp + ws.length : Nat) : Int) Pn μ2 ∧ But p μ' μ2)) ?_ (fun k μ2 hq => ?_)
  refine wT_chain (wW_or (wT_not (wT_val (wE_cal C_are_names ar (by omega) (wA_cons (wE_ix (wE_name 1 rfl (wE_int ?_))))))))
  refine wI_tup (tup_at (i := 1) (by omega)) ?_
  refine wA_cons (wE_glob TX.k_MOST_INS (wA_nil ?_))
  refine ⟨zs, ys.getD 1 .non, 6, rfl, gd_get gd 1, S1.z, ?_⟩
  refine ⟨_, rfl, ?_⟩
  refine ⟨fun hk => ?_, fun hk => ?_⟩
  · refine ⟨fun _ => ⟨prog_not fun c => ?_, ls1⟩, (fun e => nomatch e)⟩
    have h := c.r
    unfold rowsA at h
    rw [show namesA 6 ((tupOf (.tup ys)).getD 1 .non) = false from (by simpa using hk : namesA 6 (ys.getD 1 .non) = false)] at h
    cases h
  have hn6 : namesA 6 (ys.getD 1 .non) = true := by simpa using hk
  obtain ⟨e1, i1, i6, hns⟩ := names_str hn6
  rw [show wordsA (ys.getD 1 .non) = ws from ews.symm] at e1 i1 i6 hns
  have at1 : atI ys 1 = some (.tup (ws.map D.A.str)) := by rw [← e1]; exact tup_at (i := 1) (by omega)
  refine wW_or (wT_not (wT_val (wE_cal C_are_unlike ar (by omega) (wA_cons (wE_ix (wE_name 1 rfl (wE_int ?_)))))))
  refine wI_tup (xs := ys) (y := .tup (ws.map D.A.str)) at1 ?_
  refine wA_nil ?_
  refine ⟨ws, rfl, by omega, ?_⟩
  refine ⟨_, rfl, ?_⟩
  refine ⟨fun hk => ?_, fun hk => ?_⟩
  · refine ⟨fun _ => ⟨prog_not fun c => ?_, ls1⟩, (fun e => nomatch e)⟩
    have h := c.r
    unfold rowsA at h
    rw [show wordsA ((tupOf (.tup ys)).getD 1 .non) = ws from ews.symm, show decide ws.Nodup = false by simpa using hk, Bool.and_false] at h
    cases h
  have row : rowsA 6 (ys.getD 1 .non) = true := by
    unfold rowsA
    rw [hn6, show wordsA (ys.getD 1 .non) = ws from ews.symm, show decide ws.Nodup = true by simpa using hk]; rfl
  refine wW_or1 (wT_not (wT_val (wE_meth TX.cls_Looked CM_Looked_is_more ar (by omega) (wE_name 0 rfl ?_))))
  obtain ⟨dx, hp⟩ := S1.lk.ex
  refine ⟨p, dx, _, rfl, hp, rfl, ?_⟩
  refine wA_cons (wE_callB (id := "len") TX.b_len (by decide +kernel) (wA_cons (wE_ix (wE_name 1 rfl (wE_int ?_)))))
  refine wI_tup (xs := ys) (y := .tup (ws.map D.A.str)) at1 ?_
  refine wA_nil ?_
  refine wC_len (.tup _) ?_
  rw [List.length_map]
  refine wA_nil ?_
  refine ⟨p, pp, mp, ws.length, Pn, rfl, S1.lk, fun μ3 lk3 b3 => ?_⟩
  refine ⟨_, rfl, ?_⟩
  refine ⟨fun z => ⟨prog_not fun c => ?_, ls1.trans b3.ls⟩, fun z => ⟨row, by simpa using z, lk3, b3⟩⟩
  have h := c.z1
  rw [epo, ← ews] at h
  rw [decide_eq_true (show mp + ws.length ≤ 80 from h)] at z; cases z
  obtain ⟨hq5, hq6⟩ := hq
  refine ⟨fun hk => ?_, fun hk => ?_⟩
  refine wSs_cons (wS_ret (wE_bl ?_))
  exact q2 _ (hq5 hk).1 (hq5 hk).2
  refine wSs_nil ?_
  refine wSs_cons (wS_set 3 (wE_callTy (T := "dict") TX.b_dict (by decide +kernel) (wA_cons (wE_lcF (own := [("name", 4)]) (wIt_tup (wE_ix (wE_name 1 rfl (wE_int ?_)))) nd (blkOk_by (N := N_Looked_is_program) (sc := defScope s_Looked_is_program) (by decide +kernel))))) nd)
  obtain ⟨row, hm, lk2, b2⟩ := hq6 hk
  obtain ⟨e1, i1, i6, hns, nod⟩ := rows_str row
  rw [show wordsA (ys.getD 1 .non) = ws from ews.symm] at e1 i1 i6 hns nod
  have at1 : atI ys 1 = some (.tup (ws.map D.A.str)) := by rw [← e1]; exact tup_at (i := 1) (by omega)
  refine wI_tup (xs := ys) (y := .tup (ws.map D.A.str)) at1 ?_
  refine ⟨_, rfl, ?_⟩
  refine ⟨szOk (by rw [List.length_map]; omega), (Tk ws).map (fun kv => A.tup [kA kv.1, kv.2]), by simp, fun i y z hy hz s0 H0 C cl fp => ?_, ?_⟩
  obtain ⟨w1, g1, rfl⟩ := map_at hy
  obtain ⟨kv, g2, rfl⟩ := map_at hz
  obtain ⟨w2, g3, rfl⟩ := map_at g2
  obtain rfl : w1 = w2 := Option.some.inj (g1.symm.trans g3)
  refine wGw_name 4 (⟨rfl, fun s0 H0 C cl fp => (wE_tup (wA_cons (wE_name 4 rfl (wA_cons (wE_bl (wA_nil ⟨by show 2 ≤ sizeLine; decide, ?_⟩))))))⟩) nd
  refine ⟨?_, .refl _⟩
  rfl
  refine wA_nil ?_
  refine wC_dictP rfl (.lst _) (fun t nt => ?_)
  rw [merge_Tk nod]
  have lk3 := lk2.sub (Sub.new (m := .dic (Tk ws)) nt)
  obtain ⟨tp, tpp⟩ := lk2.old nt
  have z2 : Zs μ2 zs := fun z hz => b2 z _ (fun e => S.pz (by rw [← e]; exact hz)) (S1.z z hz)
  have tz : t ∉ zs := fun e => by rw [z2 t e] at nt; cases nt
  have S2 : LkS CL p pp t zs Pn (ws, mp + ws.length) (μ2.upd t (.dic (Tk ws))) := ⟨lk3, Mu.upd_same, tp, tpp, S.pz, S.ppz, tz, z2.sub (Sub.new nt), by simp only; omega⟩
  have lso : ∀ {μ3 : Mu}, Ls p t (μ2.upd t (.dic (Tk ws))) μ3 → Ls p pp μ μ3 := fun ls2 z o h1 h2 h3 => by
    have h4 := b2 z o h1 (ls1 z o h1 h2 h3)
    have h5 : z ≠ t := fun e => by rw [e, nt] at h4; cases h4
    exact ls2 z o h1 h5 (by rw [Mu.upd_ne h5]; exact h4)
  have ebo : bOf (.tup ys) = bodyA Pn 3 (ys.getD 2 .non) (ws, mp + ws.length) := by unfold bOf; rw [epo, ← ews]; rfl
  refine wSs_cons (wS_if ?_)
  refine wT.imp (QB := fun k μ3 => Ls p t (μ2.upd t (.dic (Tk ws))) μ3 ∧ LkS CL p pp t zs Pn (bOf (.tup ys)).2 μ3 ∧ (k = true → progA (.tup ys) = false) ∧ (k = false → (bOf (.tup ys)).1 = true ∧ namesA 4 (ys.getD 3 .non) = true)) ?_ (fun k μ3 hq => ?_)
  refine wT_chain (wW_or (wT_not (wT_val (wE_meth TX.cls_Looked CM_Looked_is_body ar (by omega) (wE_name 0 rfl ?_)))))
  obtain ⟨dx, hp⟩ := S2.lk.ex
  refine ⟨p, dx, _, rfl, hp, rfl, ?_⟩
  refine wA_cons (wE_ix (wE_name 1 rfl (wE_int ?_)))
  refine wI_tup (tup_at (i := 2) (by omega)) ?_
  refine wA_cons (wE_name 3 rfl (wA_cons (wE_int (wA_nil ?_))))
  refine ⟨zs, p, pp, t, Pn, (ws, mp + ws.length), ys.getD 2 .non, 0, rfl, S2, gd_get gd 2, Nat.le_refl _, by decide, fun μ4 S4 ls4 => ?_⟩
  rw [show bodyA Pn (3 - 0) (ys.getD 2 .non) (ws, mp + ws.length) = bOf (.tup ys) from ebo.symm] at S4 ⊢
  refine ⟨_, rfl, ?_⟩
  refine ⟨fun hk => ?_, fun hk => ?_⟩
  · refine ⟨ls4, S4, fun _ => prog_not fun c => ?_, (fun e => nomatch e)⟩
    rw [c.bo] at hk; cases hk
  have bt : (bOf (.tup ys)).1 = true := by simpa using hk
  refine wW_or1 (wT_not (wT_val (wE_cal C_are_names ar (by omega) (wA_cons (wE_ix (wE_name 1 rfl (wE_int ?_)))))))
  refine wI_tup (tup_at (i := 3) (by omega)) ?_
  refine wA_cons (wE_glob TX.k_MOST_OUTS (wA_nil ?_))
  refine ⟨zs, ys.getD 3 .non, 4, rfl, gd_get gd 3, S4.z, ?_⟩
  refine ⟨_, rfl, ?_⟩
  refine ⟨ls4, S4, fun z => prog_not fun c => ?_, fun z => ⟨bt, by simpa using z⟩⟩
  have h : namesA 4 (ys.getD 3 .non) = true := c.o
  rw [h] at z; cases z
  obtain ⟨ls4, S4, hq7, hq8⟩ := hq
  refine ⟨fun hk => ?_, fun hk => ?_⟩
  refine wSs_cons (wS_ret (wE_bl ?_))
  exact q2 _ (hq7 hk) (lso ls4)
  refine wSs_nil ?_
  refine wSs_cons (wS_ret ?_)
  refine wE_and (wE_meth TX.cls_Looked CM_Looked_is_more ar (by omega) (wE_name 0 rfl ?_))
  obtain ⟨bt, ho4⟩ := hq8 hk
  obtain ⟨os, eos⟩ : ∃ os, os = oOf (.tup ys) := ⟨_, rfl⟩
  obtain ⟨e3, o1, o4, hos⟩ := names_str ho4
  rw [show wordsA (ys.getD 3 .non) = os from eos.symm] at e3 o1 o4 hos
  have at3 : atI ys 3 = some (.tup (os.map D.A.str)) := by rw [← e3]; exact tup_at (i := 3) (by omega)
  obtain ⟨dx, hp⟩ := S4.lk.ex
  refine ⟨p, dx, _, rfl, hp, rfl, ?_⟩
  refine wA_cons (wE_callB (id := "len") TX.b_len (by decide +kernel) (wA_cons (wE_ix (wE_name 1 rfl (wE_int ?_)))))
  refine wI_tup (xs := ys) (y := .tup (os.map D.A.str)) at3 ?_
  refine wA_nil ?_
  refine wC_len (.tup _) ?_
  rw [List.length_map]
  refine wA_nil ?_
  refine ⟨p, pp, (bOf (.tup ys)).2.2, os.length, Pn, rfl, S4.lk, fun μ6 lk6 b6 => ?_⟩
  have ht6 := but_at b6 tp S4.ht
  have ls6 : Ls p pp μ μ6 := (lso ls4).trans b6.ls
  refine ⟨_, rfl, and_flip (fun hk => ?_) (fun hk => ?_)⟩
  · refine q2 _ (prog_not fun c => ?_) ls6
    have h := c.z2
    rw [← eos] at h
    rw [decide_eq_true h] at hk; cases hk
  have hz2 : (bOf (.tup ys)).2.2 + os.length ≤ 80 := of_decide_eq_true hk
  refine wE_one (wE_callB (id := "all") TX.b_all (by decide +kernel) (wA_cons (wE_lcF (own := [("name", 4)]) (wIt_tup (wE_ix (wE_name 1 rfl (wE_int ?_)))) nd (blkOk_by (N := N_Looked_is_program) (sc := defScope s_Looked_is_program) (by decide +kernel)))))
  refine wI_tup (xs := ys) (y := .tup (os.map D.A.str)) at3 ?_
  refine ⟨_, rfl, ?_⟩
  refine ⟨szOk (by rw [List.length_map]; omega), (os.map fun w => decide (w ∈ (bOf (.tup ys)).2.1)).map D.A.bl, by simp, fun i y z hy hz s0 H0 C cl fp => ?_, ?_⟩
  obtain ⟨w1, g1, rfl⟩ := map_at hy
  obtain ⟨bz, g2, rfl⟩ := map_at hz
  obtain ⟨w2, g3, rfl⟩ := map_at g2
  obtain rfl : w1 = w2 := Option.some.inj (g1.symm.trans g3)
  refine wGw_name 4 (⟨rfl, fun s0 H0 C cl fp => (wE_inD ar.bk (wE_name 4 rfl (wE_name 3 rfl ?_)))⟩) nd
  refine ⟨t, _, .inr w1, rfl, ht6, rfl, ?_⟩
  refine ⟨?_, .refl _⟩
  rw [valA_Tk]
  by_cases hw : w1 ∈ (bOf (.tup ys)).2.1
  · rw [if_pos hw, decide_eq_true hw]; rfl
  · rw [if_neg hw, decide_eq_false hw]; rfl
  refine wA_nil ?_
  refine wC_all (ns := os.map fun w => decide (w ∈ (bOf (.tup ys)).2.1)) rfl (.lst _) ?_
  rw [List.all_map, show (id ∘ fun w => decide (w ∈ (bOf (.tup ys)).2.1)) = fun w => decide (w ∈ (bOf (.tup ys)).2.1) from rfl]
  cases eal : os.all (fun w => decide (w ∈ (bOf (.tup ys)).2.1)) with
  | false =>
    refine q2 _ (prog_not fun c => ?_) ls6
    have h := c.al
    rw [← eos, eal] at h; cases h
  | true =>
    have pc : progA (.tup ys) = true := prog_c.mpr ⟨rfl, l4, z0, by rw [etp]; exact p6, by rw [etp]; exact hps, row, by rw [epo, ← ews]; exact hm, bt, ho4, by rw [← eos]; exact hz2, by rw [← eos]; exact eal⟩
    obtain ⟨g, eg, ok⟩ := prog_dec hsh pc
    obtain ⟨a1, a2, a3, a4⟩ := prog_at ok
    refine q1 g _ eg ok ?_ ls6
    rw [eg] at epo
    have h1 : Pn = pnPts g.parts := by rw [a1] at epo; exact (congrArg Prod.fst epo).symm
    rw [eg, a3] at eos
    rw [← h1, ← a4, ← eg, ← eos]
    exact lk6

end
end D

namespace D
open PySem PySem.Spec PyProof.Rows L2
local macro_rules | `(tactic| walk_at "mul") => `(tactic| first | refine wO_mul (mulR (by first | decide | omega) (by first | decide | omega)) ?_ | refine wO_mul (mulL (by first | decide | omega) (by first | decide | omega)) ?_)
local macro_rules | `(tactic| walk_at "mod") => `(tactic| refine wO_mod (by first | decide | omega) ?_)
local macro_rules | `(tactic| walk_at "fdiv") => `(tactic| refine wO_fdiv (by first | decide | omega) (divS (by first | decide | omega)) ?_)
local macro_rules | `(tactic| walk_at "ix") => `(tactic| first | refine wI_tup (by rfl) ?_ | refine wI_lst (by rfl) ?_)
local macro_rules | `(tactic| walk_at "sl") => `(tactic| first | refine wSl_tup ?_ | refine wSl_lstF ?_)
local macro_rules | `(tactic| walk_at "obj") => `(tactic| refine ⟨_, _, _, rfl, by assumption, rfl, ?_⟩)
local macro_rules | `(tactic| walk_at "len") => `(tactic| first | refine wC_len (.tup _) ?_ | refine wC_len (.lst _) ?_ | refine wC_len (.loc (by assumption)) ?_)
section
variable {P : Program} {w : World} {mg : Str → Option Value} {base : Heap} {K : PySem.W.Frag} {CL CP CTL CTe CPr CPo CNV CTG CCo CS pT : Addr} {k : Nat}
abbrev s_Program___init__ : Stmt := (bodyC (topS 35)).getD 0 (.Pass ⟨0, 0, 0, 0⟩)
abbrev N_Program___init__ : List Str := ["self", "plain", "looked", "one"]
theorem sc_Program___init__ : FnScope N_Program___init__ ["self", "plain"] (defScope s_Program___init__) := ⟨rfl, rfl, rfl, by decide +kernel, rfl, by decide +kernel, by decide +kernel⟩
abbrev Rp (g : Pg) : List (Key × D.A) := g.parts.map fun q => ((.inr q.nm : Key), q.a)
abbrev PgF (g : Pg) (rp : Addr) : List (Str × D.A) := [("told", g.a), ("many", .int g.size), ("rows_of_parts", .loc rp)]
def PgAt (CP p : Addr) (g : Pg) (μ : Mu) : Prop := ∃ dx rp, μ p = some (.ins CP dx (PgF g rp)) ∧ μ rp = some (.dic (Rp g)) ∧ rp ≠ p
theorem PgAt.sub {CP p : Addr} {g : Pg} {μ μ' : Mu} (h : PgAt CP p g μ) (s : Sub μ μ') : PgAt CP p g μ' := by
  obtain ⟨dx, rp, h1, h2, h3⟩ := h
  exact ⟨dx, rp, s _ _ h1, s _ _ h2, h3⟩
theorem merge_Rp {g : Pg} (h : g.ok) : mergeA [] (Rp g) = Rp g := by
  refine merge_nodup ?_
  have h1 := (okPts_nodup h.parts).1
  rw [List.map_map, show ((fun x : Key × D.A => x.1) ∘ fun q : Pt => ((.inr q.nm : Key), q.a)) = fun q => (.inr q.nm : Key) from rfl, show (g.parts.map fun q => (.inr q.nm : Key)) = (g.parts.map (·.nm)).map Sum.inr by rw [List.map_map]; rfl]
  exact List.Pairwise.map _ (fun a b hab e => hab (Sum.inr.inj e)) h1
def c_Program___init__ (CP CPr : Addr) : AC := fun xs μ Q E => ∃ (zs : List Addr) (p dx : Addr) (x : D.A), xs = [.loc p, x] ∧ μ p = some (.ins CP dx []) ∧ p ∉ zs ∧ Zs μ zs ∧ gdA zs x ∧ (∀ y ∈ tupOf x, shA 8 y) ∧ (∀ (g : Pg) μ', x = g.a → g.ok → PgAt CP p g μ' → But p μ μ' → Q .non μ') ∧ (∀ μ', progA x = false → But p μ μ' → E (.ref CPr) none μ')
theorem ok_Program___init__ {n : Nat}  {f : Addr} {fd : FuncData} (TX : Txt K mg w CL CP CTL CTe CPr CPo CNV CTG CCo CS pT) (CK_Looked : CalK P w K mg base n "Looked" CL (c_Looked___init__ CL)) (CM_Looked_is_program : CalM P w K mg base n CL "is_program" (c_Looked_is_program CL)) (F : Fun K "__init__" "Program.__init__" s_Program___init__ f fd) : FnD P w K mg base (L2.CX P w) (n + 2) f fd ["self", "plain"] (c_Program___init__ CP CPr) := by
  refine fnDX F sc_Program___init__ (fun xs μ Q E hc => by obtain ⟨zs, p, dx, x, rfl, hp, pz, hz, gd, hsh, q1, q2⟩ := hc; rfl) (fun cdv Ao outer s H E xs μ Q E0 ar hc tk pa => ?_)
  obtain ⟨zs, p, dx, x, rfl, hp, pz, hz, gd, hsh, q1, q2⟩ := hc
  have nd := sc_Program___init__.nd
  refine wSs_cons (wS_set 2 (wE_make0 CK_Looked ar (by omega) ?_) nd)
  refine fun lp ldx nlp => ⟨lp, ldx, rfl, Mu.upd_same, fun lpp μ1 lk1 npp b1 => ⟨rfl, ?_⟩⟩
  have n1 : p ≠ lp := fun z => by rw [z, nlp] at hp; cases hp
  have hp0 : (μ.upd lp (.ins CL ldx [])) p = some (.ins CP dx []) := by rw [Mu.upd_ne n1]; exact hp
  have n2 : p ≠ lpp := fun z => by rw [z, npp] at hp0; cases hp0
  have hp1 := b1 p _ n1 hp0
  have lz : lp ∉ zs := fun e => by rw [hz lp e] at nlp; cases nlp
  have hz0 : Zs (μ.upd lp (.ins CL ldx [])) zs := hz.sub (Sub.new nlp)
  have lpz : lpp ∉ zs := fun e => by rw [hz0 lpp e] at npp; cases npp
  have hz1 : Zs μ1 zs := fun z hz2 => b1 z _ (fun e => lz (by rw [← e]; exact hz2)) (hz0 z hz2)
  have but2 : ∀ {μ2 : Mu}, Ls lp lpp μ1 μ2 → ∀ z o, z ≠ p → μ z = some o → μ2 z = some o := fun ls2 z o h1 h2 => by
    have h3 : z ≠ lp := fun e => by rw [e, nlp] at h2; cases h2
    have h4 : (μ.upd lp (.ins CL ldx [])) z = some o := by rw [Mu.upd_ne h3]; exact h2
    have h5 : z ≠ lpp := fun e => by rw [e, npp] at h4; cases h4
    exact ls2 z o h3 h5 (b1 z o h3 h4)
  refine wSs_cons (wS_if (wT_not (wT_val (wE_meth TX.cls_Looked CM_Looked_is_program ar (by omega) (wE_name 2 rfl ?_)))))
  obtain ⟨dx2, hl⟩ := lk1.ex
  refine ⟨lp, dx2, _, rfl, hl, rfl, ?_⟩
  refine wA_cons (wE_name 1 rfl (wA_nil ?_))
  refine ⟨zs, lp, lpp, x, rfl, ⟨lk1, lz, lpz, hz1⟩, gd, hsh, fun b μ2 hb hb2 ls2 => ?_⟩
  refine ⟨_, rfl, ?_⟩
  refine ⟨fun hk => ?_, fun hk => ?_⟩
  refine wSs_cons (wS_raise TX.x_BadProgram tk ?_)
  have no : progA x = false := by rw [← hb]; simpa using hk
  exact q2 μ2 no fun z o h1 h2 => but2 ls2 z o h1 h2
  refine wSs_nil ?_
  refine wSs_cons (wS_fld TX.cls_Program TX.na_Program_told (wE_name 1 rfl (wE_name 0 rfl ?_)))
  obtain ⟨g, rfl, ok, lk2⟩ := hb2 (by simpa using hk)
  have hp2 := ls2 p _ n1 n2 hp1
  obtain ⟨dx3, hl2⟩ := lk2.ex
  refine ⟨p, dx, [], rfl, hp2, by show 0 < 1000; decide, ?_⟩
  refine wSs_cons (wS_fld TX.cls_Program TX.na_Program_many (wE_fld TX.cls_Looked TX.na_Looked_many (wE_name 2 rfl ?_)))
  refine ⟨lp, dx3, _, .int g.size, rfl, by rw [Mu.upd_ne (Ne.symm n1)]; exact hl2, rfl, ?_⟩
  refine wE_name 0 rfl ?_
  refine ⟨p, dx, _, rfl, Mu.upd_same, by show 1 < 1000; decide, ?_⟩
  refine wSs_cons (wS_fld TX.cls_Program TX.na_Program_rows_of_parts (wE_callTy (T := "dict") TX.b_dict (by decide +kernel) (wA_cons (wE_lcF (own := [("one", 3)]) (wIt_tup (wE_ix (wE_name 1 rfl (wE_int ?_)))) nd (blkOk_by (N := N_Program___init__) (sc := defScope s_Program___init__) (by decide +kernel))))))
  refine wI_tup (atI_pos (i := 0) (y := .tup (g.parts.map Pt.a)) (by rfl) (by decide)) ?_
  refine ⟨_, rfl, ?_⟩
  refine ⟨szOk (by rw [List.length_map]; have := ok.p6; omega), (Rp g).map (fun kv => A.tup [kA kv.1, kv.2]), by simp, fun i y z hy hz s0 H0 C cl fp => ?_, ?_⟩
  obtain ⟨q1, g1, rfl⟩ := map_at hy
  obtain ⟨kv, g2, rfl⟩ := map_at hz
  obtain ⟨q2, g3, rfl⟩ := map_at g2
  obtain rfl : q1 = q2 := Option.some.inj (g1.symm.trans g3)
  refine wGw_name 3 (⟨rfl, fun s0 H0 C cl fp => (wE_tup (wA_cons (wE_ix (wE_name 3 rfl (wE_int ?_)))))⟩) nd
  refine wI_tup (xs := [.str q1.nm, .tup (q1.ins.map D.A.str), .tup (aIts q1.body), .str q1.give]) (atI_pos (i := 0) (y := .str q1.nm) (by rfl) (by decide)) ?_
  refine wA_cons (wE_name 3 rfl (wA_nil ⟨by show 2 ≤ sizeLine; decide, ?_⟩))
  refine ⟨?_, .refl _⟩
  rfl
  refine wA_nil ?_
  refine wC_dictP rfl (.lst _) (fun rp nrp => ?_)
  rw [merge_Rp ok]
  have n3 : rp ≠ p := fun z => by rw [z, Mu.upd_same] at nrp; cases nrp
  refine wE_name 0 rfl ?_
  refine ⟨p, dx, _, rfl, by rw [Mu.upd_ne (Ne.symm n3)]; exact Mu.upd_same, by show 2 < 1000; decide, ?_⟩
  refine wSs_nil ?_
  refine q1 g _ rfl ok ⟨dx, rp, Mu.upd_same, by rw [Mu.upd_ne n3]; exact Mu.upd_same, n3⟩ (fun z o h1 h2 => ?_)
  have h6 := but2 ls2 z o h1 h2
  rw [Mu.upd_ne h1]
  have h7 : z ≠ rp := fun e => by
    rw [Mu.upd_ne n3, Mu.upd_ne n3] at nrp
    rw [e, nrp] at h6; cases h6
  rw [Mu.upd_ne h7, Mu.upd_ne h1, Mu.upd_ne h1]
  exact h6

abbrev s_Program_plain : Stmt := (bodyC (topS 35)).getD 1 (.Pass ⟨0, 0, 0, 0⟩)
abbrev N_Program_plain : List Str := ["self"]
theorem sc_Program_plain : FnScope N_Program_plain ["self"] (defScope s_Program_plain) := ⟨rfl, rfl, rfl, by decide +kernel, rfl, by decide +kernel, by decide +kernel⟩
def c_Program_plain (CP : Addr) : AC := fun xs μ Q _ => ∃ (p : Addr) (g : Pg), xs = [.loc p] ∧ PgAt CP p g μ ∧ Q g.a μ
theorem ok_Program_plain {n : Nat}  {f : Addr} {fd : FuncData} (TX : Txt K mg w CL CP CTL CTe CPr CPo CNV CTG CCo CS pT)  (F : Fun K "plain" "Program.plain" s_Program_plain f fd) : FnD P w K mg base CX0 (n + 1) f fd ["self"] (c_Program_plain CP) := by
  refine fnD F sc_Program_plain (fun xs μ Q E hc => by obtain ⟨p, g, rfl, ⟨dx, rp, h1, h2, h3⟩, q⟩ := hc; rfl) (fun cdv Ao outer s H E xs μ Q E0 ar hc => ?_)
  obtain ⟨p, g, rfl, ⟨dx, rp, h1, h2, h3⟩, q⟩ := hc
  have nd := sc_Program_plain.nd
  refine wSs_cons (wS_ret (wE_fld TX.cls_Program TX.na_Program_told (wE_name 0 rfl ?_)))
  refine ⟨p, dx, _, g.a, rfl, h1, rfl, ?_⟩
  exact q

end
end D

namespace D
open PySem PySem.Spec PyProof.Rows L2
mutual
def nbI : It → Prop
  | .row _ _ _ => True
  | .rep _ b => b.length ≤ 6 ∧ nbIts b
def nbIts : List It → Prop
  | [] => True
  | i :: r => nbI i ∧ nbIts r
end
theorem nb_snoc {i : It} (hi : nbI i) : ∀ {b : List It}, nbIts b → nbIts (b ++ [i])
  | [], _ => by simp only [List.nil_append, nbIts]; exact ⟨hi, trivial⟩
  | x :: b, h => by simp only [nbIts] at h; simp only [List.cons_append, nbIts]; exact ⟨h.1, nb_snoc hi h.2⟩
def nbPg (g : Pg) : Prop := (∀ q ∈ g.parts, nbIts q.body ∧ q.body.length ≤ 6) ∧ nbIts g.body
theorem th_gd {T : List Str} {a : A} (h : ThOk T a) (s : ThSm a) : gdA [] a ∧ (tupOf a).length ≤ 6 ∧ shA 6 a := by
  rcases h with ⟨w, rfl, _, h2, h3⟩ | ⟨n, d, rfl, _⟩
  · exact ⟨by simp only [gdA]; exact ⟨by omega, strOk_let h2⟩, Nat.zero_le _, trivial⟩
  · have h := s.1
    simp only [isShow, isShows, Bool.and_true, Bool.and_eq_true, decide_eq_true_eq] at h
    exact ⟨by simp only [gdA, gds]; exact ⟨Nat.le_of_ble_eq_true rfl, h.1, h.2, trivial⟩, Nat.le_of_ble_eq_true rfl, by simp only [shA, shs, tupOf]; exact ⟨⟨Nat.zero_le _, trivial⟩, ⟨Nat.zero_le _, trivial⟩, trivial⟩⟩
theorem row_gd {Pn : List (Str × Int)} {T : List Str} {w : Str} {ts : List A} (h : RowOk Pn T w ts) (s : RowSm w ts) : (∀ a ∈ ts, gdA [] a ∧ (tupOf a).length ≤ 6 ∧ shA 6 a) ∧ w.length ≤ 1000 := by
  rcases h with ⟨rfl, c, r, rfl, _, h4, h5, h6⟩ | ⟨rfl, a, k, rfl, h3, k0, k1⟩ | ⟨h1, h2, h3, h4⟩
  · refine ⟨fun a ha => ?_, by decide⟩
    rcases List.mem_cons.mp ha with rfl | ha2
    · exact ⟨by simp only [gdA]; exact ⟨by omega, strOk_let h4⟩, Nat.zero_le _, trivial⟩
    · exact th_gd (h6 a ha2) (s.2.1 a ha)
  · refine ⟨fun b hb => ?_, by decide⟩
    rcases List.mem_cons.mp hb with rfl | hb2
    · exact th_gd h3 (s.2.1 b hb)
    · rw [List.mem_singleton.mp hb2]
      exact ⟨by simp only [gdA]; exact log_small (Nat.le_trans (show k.natAbs ≤ 8 by omega) (by decide)), Nat.zero_le _, trivial⟩
  · refine ⟨fun a ha => th_gd (h4 a ha) (s.2.1 a ha), ?_⟩
    unfold valI at h3
    cases e : TAKENL.find? (fun kv => decide (kv.1 = w)) with
    | none => rw [e] at h3; cases h3
    | some p =>
      have h5 := List.mem_of_find?_eq_some e
      have h6 := List.find?_some e
      have h7 : p.1 = w := by simpa using h6
      have h8 : TAKENL.all (fun p => decide (p.1.length ≤ 1000)) = true := by decide +kernel
      rw [← h7]
      simpa using List.all_eq_true.mp h8 p h5
theorem nm_gd {w : Str} (h : isNm (.str w) = true) : gdA [] (.str w) := by
  simp only [gdA]
  exact ⟨by have := (isNm_let h).2.1; omega, strOk_let (isNm_let h).1⟩
theorem nms_gd {l : List Str} (h : ∀ w ∈ l, isNm (.str w) = true) : gds [] (l.map A.str) := gds_of fun a ha => by
  obtain ⟨w, hw, rfl⟩ := List.mem_map.mp ha
  exact nm_gd (h w hw)
theorem nms_sh {l : List Str} {n : Nat} : shs n (l.map A.str) := shs_of fun a ha => by
  obtain ⟨w, hw, rfl⟩ := List.mem_map.mp ha
  exact ⟨Nat.zero_le _, trivial⟩
theorem kw_gd {w : Str} (h : w.length ≤ 1000) (h2 : PyData.strOk w = true) : gdA [] (.str w) := by simp only [gdA]; exact ⟨h, h2⟩
mutual
theorem It.gd {Pn : List (Str × Int)} : ∀ {i : It} {d : Nat} {T : List Str}, i.ok Pn d T → i.sm → nbI i → gdA [] i.a ∧ (tupOf i.a).length ≤ 6 ∧ shA 6 i.a
  | .row x w ts, d, T, h, s, nb => by
    simp only [It.ok] at h
    simp only [It.sm] at s
    obtain ⟨h0, h1, h2⟩ := h
    obtain ⟨k1, k2⟩ := row_gd h2 s.2
    refine ⟨?_, by simp only [It.a, tupOf, List.length_cons, List.length_nil]; decide, ?_⟩
    · simp only [It.a]
      refine gd_of (Nat.le_of_ble_eq_true rfl) fun y hy => ?_
      simp only [List.mem_cons, List.not_mem_nil, or_false] at hy
      rcases hy with rfl | rfl | rfl | rfl
      · exact kw_gd (by decide) (by decide +kernel)
      · exact nm_gd h1
      · exact kw_gd k2 h2.dat.2.2.1
      · exact gd_of (by have := s.2.1; omega) fun a ha => (k1 a ha).1
    · simp only [It.a, shA]
      refine shs_of fun y hy => ?_
      simp only [List.mem_cons, List.not_mem_nil, or_false] at hy
      rcases hy with rfl | rfl | rfl | rfl
      · exact ⟨Nat.zero_le _, trivial⟩
      · exact ⟨Nat.zero_le _, trivial⟩
      · exact ⟨Nat.zero_le _, trivial⟩
      · exact ⟨by have := s.2.1; show ts.length ≤ 6; omega, by simp only [shA]; exact shs_of fun a ha => (k1 a ha).2⟩
  | .rep n b, d, T, h, s, nb => by
    simp only [It.ok] at h
    simp only [It.sm] at s
    simp only [nbI] at nb
    obtain ⟨k1, k2⟩ := gdIts h.2.2.2 s.2.2 nb.2
    refine ⟨?_, by simp only [It.a, tupOf, List.length_cons, List.length_nil]; decide, ?_⟩
    · simp only [It.a]
      refine gd_of (Nat.le_of_ble_eq_true rfl) fun y hy => ?_
      simp only [List.mem_cons, List.not_mem_nil, or_false] at hy
      rcases hy with rfl | rfl | rfl
      · exact kw_gd (by decide) (by decide +kernel)
      · simp only [gdA]; exact log_small (Nat.le_trans (show n.natAbs ≤ 5 by omega) (by decide))
      · simp only [gdA]; exact ⟨by rw [aIts_len]; omega, k1⟩
    · simp only [It.a, shA]
      refine shs_of fun y hy => ?_
      simp only [List.mem_cons, List.not_mem_nil, or_false] at hy
      rcases hy with rfl | rfl | rfl
      · exact ⟨Nat.zero_le _, trivial⟩
      · exact ⟨Nat.zero_le _, trivial⟩
      · exact ⟨by show (aIts b).length ≤ 6; rw [aIts_len]; omega, by simp only [shA]; exact k2⟩
theorem gdIts {Pn : List (Str × Int)} : ∀ {l : List It} {d : Nat} {T : List Str}, okIts Pn d T l → smIts l → nbIts l → gds [] (aIts l) ∧ shs 6 (aIts l)
  | [], _, _, _, _, _ => ⟨trivial, trivial⟩
  | i :: r, d, T, h, s, nb => by
    simp only [okIts] at h
    simp only [smIts] at s
    simp only [nbIts] at nb
    obtain ⟨k1, k2⟩ := It.gd h.1 s.1 nb.1
    obtain ⟨k3, k4⟩ := gdIts h.2 s.2 nb.2
    exact ⟨by simp only [aIts, gds]; exact ⟨k1, k3⟩, by simp only [aIts, shs]; exact ⟨k2, k4⟩⟩
end
theorem okPts_in : ∀ {l : List Pt} {Pn : List (Str × Int)}, okPts Pn l → ∀ q ∈ l, ∃ Pn2, q.ok Pn2
  | x :: l, Pn, h, q, hq => by
    simp only [okPts] at h
    rcases List.mem_cons.mp hq with rfl | hq
    · exact ⟨_, h.1⟩
    · exact okPts_in h.2 q hq
theorem Pt.gd {q : Pt} {Pn : List (Str × Int)} (h : q.ok Pn) (s : q.sm) (nb : nbIts q.body ∧ q.body.length ≤ 6) : gdA [] q.a ∧ (tupOf q.a).length ≤ 6 ∧ shA 6 q.a := by
  obtain ⟨k1, k2⟩ := gdIts h.body s.body nb.1
  have i4 := h.i4
  refine ⟨?_, by simp only [Pt.a, tupOf, List.length_cons, List.length_nil]; decide, ?_⟩
  · simp only [Pt.a]
    refine gd_of (Nat.le_of_ble_eq_true rfl) fun y hy => ?_
    simp only [List.mem_cons, List.not_mem_nil, or_false] at hy
    rcases hy with rfl | rfl | rfl | rfl
    · exact nm_gd h.nm
    · simp only [gdA]; exact ⟨by rw [List.length_map]; omega, nms_gd h.ins⟩
    · simp only [gdA]; exact ⟨by rw [aIts_len]; omega, k1⟩
    · exact nm_gd s.give
  · simp only [Pt.a, shA]
    refine shs_of fun y hy => ?_
    simp only [List.mem_cons, List.not_mem_nil, or_false] at hy
    rcases hy with rfl | rfl | rfl | rfl
    · exact ⟨Nat.zero_le _, trivial⟩
    · exact ⟨by show (q.ins.map A.str).length ≤ 6; rw [List.length_map]; omega, by simp only [shA]; exact nms_sh⟩
    · exact ⟨by show (aIts q.body).length ≤ 6; rw [aIts_len]; omega, by simp only [shA]; exact k2⟩
    · exact ⟨Nat.zero_le _, trivial⟩
structure PgB (g : Pg) : Prop where
  parts : ∀ q ∈ g.parts, gdA [] q.a ∧ (tupOf q.a).length ≤ 6 ∧ shA 6 q.a
  body : gds [] (aIts g.body) ∧ shs 6 (aIts g.body)
  bl : g.body.length ≤ 80
  pl : g.parts.length ≤ 6
  ins : ∀ w ∈ g.ins, isNm (.str w) = true
  outs : ∀ w ∈ g.outs, isNm (.str w) = true
  il : g.ins.length ≤ 6
  ol : g.outs.length ≤ 4
  i1 : 1 ≤ g.ins.length
  sz : shl g.a ≤ 1100000
  dp : deep g.a ≤ 20
theorem Pg.gd {g : Pg} (ok : g.ok) (s : g.sm) (nb : nbPg g) : PgB g := by
  have hz := ok.size
  simp only [Pg.size] at hz
  have a1 := smIts_shl s.body
  have b1 := shls_nms ok.ins
  have c1 := shls_nms (l := g.outs) fun w hw => (ok.outs w hw).1
  have d1 := shls_pts s.parts
  have bl := len_size g.body
  have e1 := (datIts ok.body).2
  have e2 : ∀ l : List Str, deeps (l.map A.str) = 0 := fun l => Nat.le_zero.mp (deeps_le fun a ha => by
    obtain ⟨w, _, rfl⟩ := List.mem_map.mp ha
    simp [deep])
  have e4 : deeps (g.parts.map Pt.a) ≤ 15 := deeps_le fun a ha => by
    obtain ⟨p, hp, rfl⟩ := List.mem_map.mp ha
    obtain ⟨Pn, h⟩ := okPts_in ok.parts p hp
    have := (datIts h.body).2
    simp only [Pt.a, deep, deeps, e2]; omega
  refine ⟨fun q hq => ?_, gdIts ok.body s.body nb.2, by omega, ok.p6, ok.ins, fun w hw => (ok.outs w hw).1, ok.i6, ok.o4, ok.i1, ?_, ?_⟩
  · obtain ⟨Pn, h⟩ := okPts_in ok.parts q hq
    exact Pt.gd h (s.parts q hq) (nb.1 q hq)
  · have := ok.i6
    have := ok.o4
    simp only [Pg.a]
    rw [shl, shls, shls, shls, shls, shls, shl.eq_7, shl.eq_7, shl.eq_7, shl.eq_7]
    omega
  · simp only [Pg.a, deep, deeps, e2]; omega
theorem PgB.root {g : Pg} (h : PgB g) : gdA [] g.a ∧ ∀ y ∈ tupOf g.a, shA 6 y := by
  have hp : gdA [] (.tup (g.parts.map Pt.a)) ∧ shA 6 (.tup (g.parts.map Pt.a)) := ⟨gd_of (by rw [List.length_map]; have := h.pl; omega) fun a ha => by
    obtain ⟨q, hq, rfl⟩ := List.mem_map.mp ha
    exact (h.parts q hq).1, by
    simp only [shA]
    exact shs_of fun a ha => by
      obtain ⟨q, hq, rfl⟩ := List.mem_map.mp ha
      exact (h.parts q hq).2⟩
  have hb : gdA [] (.tup (aIts g.body)) := by simp only [gdA]; exact ⟨by rw [aIts_len]; have := h.bl; omega, h.body.1⟩
  refine ⟨?_, fun y hy => ?_⟩
  · simp only [Pg.a]
    refine gd_of (Nat.le_of_ble_eq_true rfl) fun y hy => ?_
    simp only [List.mem_cons, List.not_mem_nil, or_false] at hy
    rcases hy with rfl | rfl | rfl | rfl
    · exact hp.1
    · simp only [gdA]; exact ⟨by rw [List.length_map]; have := h.il; omega, nms_gd h.ins⟩
    · exact hb
    · simp only [gdA]; exact ⟨by rw [List.length_map]; have := h.ol; omega, nms_gd h.outs⟩
  · have hy2 : y ∈ [A.tup (g.parts.map Pt.a), .tup (g.ins.map A.str), .tup (aIts g.body), .tup (g.outs.map A.str)] := hy
    simp only [List.mem_cons, List.not_mem_nil, or_false] at hy2
    rcases hy2 with rfl | rfl | rfl | rfl
    · exact hp.2
    · simp only [shA]; exact nms_sh
    · simp only [shA]; exact h.body.2
    · simp only [shA]; exact nms_sh
theorem Pg.show_gd {g : Pg} (ok : g.ok) {zs : List Addr} (gd : gdA zs g.a) (hz : shl g.a ≤ sizeLine) : ShowOk g.a := by
  have e1 := datIts ok.body
  have e2 : ∀ l : List Str, deeps (l.map A.str) = 0 := fun l => Nat.le_zero.mp (deeps_le fun a ha => by
    obtain ⟨w, _, rfl⟩ := List.mem_map.mp ha
    simp [deep])
  have e3 : ∀ l : List Str, (∀ w ∈ l, isNm (.str w) = true) → isDs (l.map A.str) = true := fun l h => isDs_all fun a ha => by
    obtain ⟨w, hw, rfl⟩ := List.mem_map.mp ha
    simp only [isD]; exact strOk_let (isNm_let (h w hw)).1
  have key : ∀ q ∈ g.parts, isD q.a = true ∧ deep q.a ≤ 15 := fun q hq => by
    obtain ⟨Pn, h⟩ := okPts_in ok.parts q hq
    obtain ⟨k1, k2⟩ := datIts h.body
    have gp : gdA zs (.tup (g.parts.map Pt.a)) := (gd_tup gd).2 _ (.head _)
    have gq : gdA zs q.a := (gd_tup gp).2 _ (List.mem_map.mpr ⟨q, hq, rfl⟩)
    have gg : gdA zs (.str q.give) := (gd_tup gq).2 _ (by simp)
    simp only [gdA] at gg
    exact ⟨by simp only [Pt.a, isD, isDs, k1, e3 _ h.ins, strOk_let (isNm_let h.nm).1, gg.2, Bool.and_self], by simp only [Pt.a, deep, deeps, e2]; omega⟩
  have e4 : deeps (g.parts.map Pt.a) ≤ 15 := deeps_le fun a ha => by
    obtain ⟨p, hp, rfl⟩ := List.mem_map.mp ha
    exact (key p hp).2
  have e5 : isDs (g.parts.map Pt.a) = true := isDs_all fun a ha => by
    obtain ⟨p, hp, rfl⟩ := List.mem_map.mp ha
    exact (key p hp).1
  refine ⟨gd_show gd ?_, ?_, hz⟩
  · simp only [Pg.a, isD, isDs, e1.1, e5, e3 _ ok.ins, e3 g.outs fun w hw => (ok.outs w hw).1, Bool.and_self]
  · simp only [Pg.a, deep, deeps, e2]; omega
end D

namespace D
open PySem PySem.Spec PyProof.Rows L2
local macro_rules | `(tactic| walk_at "mul") => `(tactic| first | refine wO_mul (mulR (by first | decide | omega) (by first | decide | omega)) ?_ | refine wO_mul (mulL (by first | decide | omega) (by first | decide | omega)) ?_)
local macro_rules | `(tactic| walk_at "mod") => `(tactic| refine wO_mod (by first | decide | omega) ?_)
local macro_rules | `(tactic| walk_at "fdiv") => `(tactic| refine wO_fdiv (by first | decide | omega) (divS (by first | decide | omega)) ?_)
local macro_rules | `(tactic| walk_at "ix") => `(tactic| first | refine wI_tup (by rfl) ?_ | refine wI_lst (by rfl) ?_)
local macro_rules | `(tactic| walk_at "sl") => `(tactic| first | refine wSl_tup ?_ | refine wSl_lstF ?_)
local macro_rules | `(tactic| walk_at "obj") => `(tactic| refine ⟨_, _, _, rfl, by assumption, rfl, ?_⟩)
local macro_rules | `(tactic| walk_at "len") => `(tactic| first | refine wC_len (.tup _) ?_ | refine wC_len (.lst _) ?_ | refine wC_len (.loc (by assumption)) ?_)
section
variable {P : Program} {w : World} {mg : Str → Option Value} {base : Heap} {K : PySem.W.Frag} {CL CP CTL CTe CPr CPo CNV CTG CCo CS pT : Addr} {k : Nat}
abbrev s__law_refused : Stmt := topS 60
abbrev N__law_refused : List Str := ["_law_thing_here", "_law_refused_here", "_law_found", "error", "_law_others", "_law_is_one"]
theorem sc__law_refused : FnScope N__law_refused ["_law_thing_here"] (defScope s__law_refused) := ⟨rfl, rfl, rfl, by decide +kernel, rfl, by decide +kernel, by decide +kernel⟩
def RfS (CPr : Addr) (x : D.A) (μ : Mu) (z y : D.A) (μ' : Mu) : Prop := Sub μ μ' ∧ ((z = .non ∧ y = x ∧ progA x = true ∧ ShowOk x) ∨ (progA x = false ∧ ∃ a, z = .loc a ∧ μ' a = some (.exc a (.ref CPr) none)))
def c__law_refused (CPr : Addr) : AC := fun xs μ Q _ => ∃ (zs : List Addr) (x : D.A), xs = [x] ∧ gdA zs x ∧ Zs μ zs ∧ shl x ≤ 9 * 10 ^ 6 ∧ (∀ y ∈ tupOf x, shA 8 y) ∧ ∀ μ', Sub μ μ' → Q (.str (if progA x = true then "let" else "refused")) μ'
theorem ok__law_refused {n : Nat}  {f : Addr} {fd : FuncData} (TX : Txt K mg w CL CP CTL CTe CPr CPo CNV CTG CCo CS pT) (CM_Program_plain : CalM P w K mg base n CP "plain" (c_Program_plain CP)) (CK_Program : CalKX P w K mg base n "Program" CP (c_Program___init__ CP CPr)) (F : Fun K "_law_refused" "_law_refused" s__law_refused f fd) : FnD P w K mg base CX0 (n + 2) f fd ["_law_thing_here"] (c__law_refused CPr) := by
  refine fnD F sc__law_refused (fun xs μ Q E hc => by obtain ⟨zs, x, rfl, gd, hz, hsl, hsh, q⟩ := hc; rfl) (fun cdv Ao outer s H E xs μ Q E0 ar hc => ?_)
  obtain ⟨zs, x, rfl, gd, hz, hsl, hsh, q⟩ := hc
  have nd := sc__law_refused.nd
  refine wSs_cons (wS_set 1 (wE_non (wSs_cons (wS_set 2 (wE_non ?_) nd))) nd)
  refine wSs_cut (fun Γ' μ' => ∃ z y, Γ' = [some x, some z, some y, none, none, none] ∧ RfS CPr x μ z y μ') ?_ (fun Γ' μ' hP => ?_)
  refine wS_try (i := 3) (j := 1) nd rfl rfl ⟨rfl, rfl, .inl TX.g_SlopeError⟩ (fun B2 pn xe le tk pa => (wSs_cons (wS_set 2 (wE_meth0 TX.cls_Program CM_Program_plain ar.tr (by omega) (wE_makeX CK_Program ar.tr (by omega) tk (wA_cons (wE_name 0 rfl (wA_nil ?_))))) nd)))
  refine fun p dx np => ⟨zs, p, dx, x, rfl, Mu.upd_same, (fun e => by rw [hz p e] at np; cases np), hz.sub (Sub.new np), gd, hsh, fun g μ1 e ok pa b1 => ⟨rfl, ?_⟩, fun μ1 no b1 => ?_⟩
  have s1 : Sub μ μ1 := fun q o hq => b1 q o (fun e => by rw [e, np] at hq; cases hq) (Sub.new np q o hq)
  obtain ⟨dx2, rp2, p1, p2, p3⟩ := pa
  refine ⟨p, dx2, _, rfl, p1, rfl, ?_⟩
  refine ⟨p, g, rfl, ⟨dx2, rp2, p1, p2, p3⟩, ?_⟩
  refine wSs_nil ?_
  exact ⟨_, _, rfl, s1, .inl ⟨rfl, e.symm, by rw [e, ok_prog ok], by rw [e]; rw [e] at gd hsl; exact Pg.show_gd ok gd (Nat.le_trans hsl (by decide))⟩⟩
  refine ⟨TX.m_BadProgram, fun a ha => ⟨_, _, rfl, ?_, .inr ⟨no, a, rfl, Mu.upd_same⟩⟩⟩
  exact Sub.trans (fun q o hq => b1 q o (fun e => by rw [e, np] at hq; cases hq) (Sub.new np q o hq)) (Sub.new ha)
  obtain ⟨z, y, rfl, hs, hz2⟩ := hP
  refine wSs_cons (wS_if (wT_cmp (wE_name 1 rfl (wE_non ?_))))
  refine wO_isN ?_
  refine ⟨_, rfl, ?_⟩
  refine ⟨fun hk => ?_, fun hk => ?_⟩
  refine wSs_cons (wS_ret ?_)
  refine wE_if (wT_cmp (wE_callB (id := "repr") TX.b_repr (by decide +kernel) (wA_cons (wE_name 2 rfl (wA_nil ?_)))))
  obtain ⟨rfl, rfl, hpr, hsk⟩ | ⟨hpr, a, rfl, ha⟩ := hz2
  case inr => cases hk
  refine wC_repr ar hsk ?_
  refine wE_callB (id := "repr") TX.b_repr (by decide +kernel) (wA_cons (wE_name 0 rfl (wA_nil ?_)))
  refine wC_repr ar hsk ?_
  refine wO_eqS ?_
  refine ⟨_, rfl, ?_⟩
  refine ⟨fun hk => ?_, fun hk => ?_⟩
  refine wE_str ?_
  have h := q μ' hs
  rw [if_pos hpr] at h
  exact h
  refine wE_str ?_
  exact absurd hk (by simp)
  refine wSs_nil ?_
  refine wSs_cons (wS_set 4 (wE_lstF (wA_cons (wE_callB (id := "isinstance") TX.b_isinstance (by decide +kernel) (wA_cons (wE_name 1 rfl (wA_cons (wE_glob TX.k_BadPoint (wA_nil ?_)))))))) nd)
  obtain ⟨rfl, rfl, hpr, hsk⟩ | ⟨hpr, a, rfl, ha⟩ := hz2
  · cases hk
  refine wC_isX TX.e_BadProgram ha (.inl ⟨_, rfl, rfl⟩) TX.i_BadPoint ?_
  refine wA_cons (wE_callB (id := "isinstance") TX.b_isinstance (by decide +kernel) (wA_cons (wE_name 1 rfl (wA_cons (wE_glob TX.k_BadText (wA_nil ?_))))))
  refine wC_isX TX.e_BadProgram ha (.inl ⟨_, rfl, rfl⟩) TX.i_BadText ?_
  refine wA_cons (wE_callB (id := "isinstance") TX.b_isinstance (by decide +kernel) (wA_cons (wE_name 1 rfl (wA_cons (wE_glob TX.k_Corner (wA_nil ?_))))))
  refine wC_isX TX.e_BadProgram ha (.inl ⟨_, rfl, rfl⟩) TX.i_Corner ?_
  refine wA_nil ⟨by show 3 ≤ sizeLine; decide, (wSs_cons (wS_set 4 (wE_bin (wE_name 4 rfl (wE_lstF (wA_cons (wE_callB (id := "isinstance") TX.b_isinstance (by decide +kernel) (wA_cons (wE_name 1 rfl (wA_cons (wE_glob TX.k_NoValue (wA_nil ?_)))))))))) nd))⟩
  refine wC_isX TX.e_BadProgram ha (.inl ⟨_, rfl, rfl⟩) TX.i_NoValue ?_
  refine wA_cons (wE_callB (id := "isinstance") TX.b_isinstance (by decide +kernel) (wA_cons (wE_name 1 rfl (wA_cons (wE_glob TX.k_TooGreat (wA_nil ?_))))))
  refine wC_isX TX.e_BadProgram ha (.inl ⟨_, rfl, rfl⟩) TX.i_TooGreat ?_
  refine wA_cons (wE_callB (id := "isinstance") TX.b_isinstance (by decide +kernel) (wA_cons (wE_name 1 rfl (wA_cons (wE_glob TX.k_TooLong (wA_nil ?_))))))
  refine wC_isX TX.e_BadProgram ha (.inl ⟨_, rfl, rfl⟩) TX.i_TooLong ?_
  refine wA_nil ⟨by show 3 ≤ sizeLine; decide, ?_⟩
  refine wO_catF (.lst _) (.lst _) (by decide) ?_
  refine wSs_cons (wS_set 5 ?_ nd)
  refine wE_and (wE_callB (id := "isinstance") TX.b_isinstance (by decide +kernel) (wA_cons (wE_name 1 rfl (wA_cons (wE_glob TX.k_BadProgram (wA_nil ?_))))))
  refine wC_isX TX.e_BadProgram ha (.inl ⟨_, rfl, rfl⟩) TX.i_BadProgram ?_
  refine ⟨_, rfl, and_flip (fun hk => ?_) (fun hk => ?_)⟩
  · cases hk
  refine wE_and (wE_callB (id := "isinstance") TX.b_isinstance (by decide +kernel) (wA_cons (wE_name 1 rfl (wA_cons (wE_type (n := "ValueError") TX.b_ValueError (by decide +kernel) (wA_nil ?_))))))
  refine wC_isX TX.e_BadProgram ha (.inr ⟨_, rfl, rfl⟩) TX.i_ValueError ?_
  refine ⟨_, rfl, and_flip (fun hk => ?_) (fun hk => ?_)⟩
  · cases hk
  refine wE_one (wE_cmp (wE_bl (wE_name 4 rfl ?_)))
  refine wO_notIn (.lst _) rfl (by rfl) ?_
  refine wSs_cons (wS_ret ?_)
  refine wE_if (wT_val (wE_name 5 rfl ⟨_, rfl, ?_⟩))
  refine ⟨fun hk => ?_, fun hk => ?_⟩
  refine wE_str ?_
  have h := q μ' hs
  rw [if_neg (by rw [hpr]; exact Bool.false_ne_true)] at h
  exact h
  refine wE_str ?_
  cases hk

end
end D

namespace D
open PySem PySem.Spec PyProof.Rows L2
local macro_rules | `(tactic| walk_at "mul") => `(tactic| first | refine wO_mul (mulR (by first | decide | omega) (by first | decide | omega)) ?_ | refine wO_mul (mulL (by first | decide | omega) (by first | decide | omega)) ?_)
local macro_rules | `(tactic| walk_at "mod") => `(tactic| refine wO_mod (by first | decide | omega) ?_)
local macro_rules | `(tactic| walk_at "fdiv") => `(tactic| refine wO_fdiv (by first | decide | omega) (divS (by first | decide | omega)) ?_)
local macro_rules | `(tactic| walk_at "ix") => `(tactic| first | refine wI_tup (by rfl) ?_ | refine wI_lst (by rfl) ?_)
local macro_rules | `(tactic| walk_at "sl") => `(tactic| first | refine wSl_tup ?_ | refine wSl_lstF ?_)
local macro_rules | `(tactic| walk_at "obj") => `(tactic| refine ⟨_, _, _, rfl, by assumption, rfl, ?_⟩)
local macro_rules | `(tactic| walk_at "len") => `(tactic| first | refine wC_len (.tup _) ?_ | refine wC_len (.lst _) ?_ | refine wC_len (.loc (by assumption)) ?_)
section
variable {P : Program} {w : World} {mg : Str → Option Value} {base : Heap} {K : PySem.W.Frag} {CL CP CTL CTe CPr CPo CNV CTG CCo CS pT : Addr} {k : Nat}
abbrev s__law_mixed : Stmt := topS 37
abbrev N__law_mixed : List Str := ["_law_cell", "_law_k", "_law_number"]
theorem sc__law_mixed : FnScope N__law_mixed ["_law_cell", "_law_k"] (defScope s__law_mixed) := ⟨rfl, rfl, rfl, by decide +kernel, rfl, by decide +kernel, by decide +kernel⟩
def c__law_mixed : AC := fun xs μ Q _ => ∃ i k : Int, xs = [.int i, .int k] ∧ -(2 ^ 60) < i ∧ i < 2 ^ 60 ∧ 0 ≤ k ∧ k < 2 ^ 50 ∧ ∀ r : Int, 0 ≤ r → r < 2 ^ 30 → Q (.int r) μ
theorem ok__law_mixed {n : Nat}  {f : Addr} {fd : FuncData} (TX : Txt K mg w CL CP CTL CTe CPr CPo CNV CTG CCo CS pT)  (F : Fun K "_law_mixed" "_law_mixed" s__law_mixed f fd) : FnD P w K mg base CX0 (n + 1) f fd ["_law_cell", "_law_k"] c__law_mixed := by
  refine fnD F sc__law_mixed (fun xs μ Q E hc => by obtain ⟨i, k, rfl, i1, i2, k0, k1, q⟩ := hc; rfl) (fun cdv Ao outer s H E xs μ Q E0 ar hc => ?_)
  obtain ⟨i, k, rfl, i1, i2, k0, k1, q⟩ := hc
  have nd := sc__law_mixed.nd
  refine wSs_cons (wS_set 2 (wE_bin (wE_bin (wE_bin (wE_bin (wE_bin (wE_name 0 rfl (wE_bin (wE_int (wE_bin (wE_int (wE_name 1 rfl ?_))))))))))) nd)
  walk_at "mul"
  refine wO_add ?_
  walk_at "mul"
  refine wE_int ?_
  walk_at "mul"
  refine wE_int ?_
  walk_at "mod"
  refine wE_bin (wE_bin (wE_int (wE_name 1 rfl ?_)))
  walk_at "mul"
  refine wE_name 1 rfl ?_
  walk_at "mul"
  refine wO_add ?_
  refine wE_bin (wE_int (wE_name 1 rfl ?_))
  walk_at "mul"
  refine wO_add ?_
  refine wSs_cons (wS_ret (wE_bin (wE_bin (wE_bin (wE_name 2 rfl (wE_int ?_))))))
  walk_at "mul"
  refine wE_int ?_
  walk_at "mod"
  refine wE_int ?_
  walk_at "fdiv"
  exact q _ (by omega) (by omega)

abbrev s__law_folded : Stmt := topS 38
abbrev N__law_folded : List Str := ["_law_script", "_law_found", "_law_k", "_law_cell"]
theorem sc__law_folded : FnScope N__law_folded ["_law_script"] (defScope s__law_folded) := ⟨rfl, rfl, rfl, by decide +kernel, rfl, by decide +kernel, by decide +kernel⟩
def c__law_folded : AC := fun xs μ Q _ => ∃ ns : List Int, xs = [.fls (ns.map A.int)] ∧ ns.length ≤ 63 ∧ ∀ fs : List Int, G64 fs → Q (.lst (fs.map A.int)) μ
theorem ok__law_folded {n : Nat}  {f : Addr} {fd : FuncData} (TX : Txt K mg w CL CP CTL CTe CPr CPo CNV CTG CCo CS pT)  (F : Fun K "_law_folded" "_law_folded" s__law_folded f fd) : FnD P w K mg base CX0 (n + 1) f fd ["_law_script"] c__law_folded := by
  refine fnD F sc__law_folded (fun xs μ Q E hc => by obtain ⟨ns, rfl, hn, q⟩ := hc; rfl) (fun cdv Ao outer s H E xs μ Q E0 ar hc => ?_)
  obtain ⟨ns, rfl, hn, q⟩ := hc
  have nd := sc__law_folded.nd
  refine wSs_cons (wS_setLc [("_law_k", 2)] 1 (lcMap (wIt_range1 TX.b_range (wA_cons (wE_int (wA_nil ⟨_, rfl, by omega, by omega, ?_⟩))))) nd (blkOk_by (N := N__law_folded) (sc := defScope s__law_folded) (by decide +kernel)) (sw_true rfl rfl rfl (by decide +kernel)))
  refine ⟨by rw [rgA_len]; decide, (List.range 64).map (fun (i : Nat) => A.int (17 + (i : Int))), by simp [rgA_len], fun i y z hy hz s0 H0 C cl fp => ?_, fun p np => ?_⟩
  obtain ⟨hi, rfl⟩ := rgA_at hy
  refine wGw_name 2 (⟨rfl, fun s0 H0 C cl fp => (wE_bin (wE_int (wE_name 2 rfl ?_)))⟩) nd
  refine wO_add ?_
  refine ⟨?_, .refl _⟩
  obtain ⟨_, rfl⟩ := mapR_at hz
  rw [Int.zero_add]
  refine wSs_cons (wS_for (wIt_enum TX.b_enumerate (wA_cons (wE_name 0 rfl (wA_nil ⟨_, .inr rfl, ?_⟩)))))
  refine ⟨fun i Γ' μ' => ∃ (fs : List Int) (a b : Option D.A), Γ' = [some (.fls (ns.map A.int)), some (.loc p), a, b] ∧ μ' = μ.upd p (.lst (fs.map A.int)) ∧ G64 fs, ⟨(List.range 64).map (fun (i : Nat) => 17 + (i : Int)), _, _, rfl, by rw [List.map_map]; rfl, by simp, ?_⟩, fun i y Γ' μ' hy hI => ?_, fun Γ' μ' hI => ?_⟩
  · intro v hv
    simp only [List.mem_map, List.mem_range] at hv
    obtain ⟨j, hj, rfl⟩ := hv
    omega
  obtain ⟨fs, a, b, rfl, rfl, hg⟩ := hI
  obtain ⟨x, hx, rfl⟩ := enumA_at hy
  obtain ⟨cell, hc, rfl⟩ := map_at hx
  have hi : i < 63 := by have := (List.getElem?_eq_some_iff.mp hc).1; omega
  refine wG_tup (wGs_cons (wG_name 2 (wGs_cons (wG_name 3 (wGs_nil ?_) nd)) nd))
  refine wSs_cons (wS_asg (wE_bin (wE_bin (wE_bin (wE_ix (wE_name 1 rfl (wE_bin (wE_name 2 rfl (wE_int ?_)))))))))
  walk_at "mod"
  obtain ⟨v, hv, v0, v1⟩ := hg.at (i := (i : Int) % 64) (by omega) (by omega)
  refine wI_loc Mu.upd_same hv ?_
  refine wE_int ?_
  walk_at "mul"
  refine wE_name 3 rfl ?_
  refine wO_add ?_
  refine wE_int ?_
  walk_at "mod"
  refine wG_sub (wE_name 1 rfl (wE_bin (wE_name 2 rfl (wE_int ?_))))
  walk_at "mod"
  refine ⟨_, _, _, _, rfl, rfl, Mu.upd_same, ixN_pos (by omega) (by rw [List.length_map, hg.1]; omega), ?_⟩
  refine wSs_nil ?_
  exact ⟨_, _, _, rfl, by rw [Mu.upd_upd, set_map], hg.set _ (by omega) (by omega)⟩
  obtain ⟨fs, a, b, rfl, rfl, hg⟩ := hI
  refine wSs_cons (wS_for (wIt_range2 TX.b_range (wA_cons (wE_int (wA_cons (wE_int (wA_nil ⟨_, _, rfl, by omega, ?_⟩)))))))
  refine ⟨fun i Γ' μ' => ∃ (fs : List Int) (a b : Option D.A), Γ' = [some (.fls (ns.map A.int)), some (.loc p), a, b] ∧ μ' = μ.upd p (.lst (fs.map A.int)) ∧ G64 fs, ⟨fs, _, _, rfl, rfl, hg⟩, fun i y Γ' μ' hy hI => ?_, fun Γ' μ' hI => ?_⟩
  obtain ⟨fs, a, b, rfl, rfl, hg⟩ := hI
  obtain ⟨hi, rfl⟩ := rgA_at hy
  refine wG_name 2 ?_ nd
  refine wSs_cons (wS_asg (wE_bin (wE_bin (wE_ix (wE_name 1 rfl (wE_name 2 rfl ?_))))))
  obtain ⟨v, hv, v0, v1⟩ := hg.at (i := 1 + (i : Int)) (by omega) (by omega)
  refine wI_loc Mu.upd_same hv ?_
  refine wE_bin (wE_ix (wE_name 1 rfl (wE_bin (wE_name 2 rfl (wE_int ?_)))))
  refine wO_sub ?_
  obtain ⟨v2, hv2, v20, v21⟩ := hg.at (i := 1 + (i : Int) - 1) (by omega) (by omega)
  refine wI_loc Mu.upd_same hv2 ?_
  refine wE_int ?_
  walk_at "mul"
  refine wO_add ?_
  refine wE_int ?_
  walk_at "mod"
  refine wG_sub (wE_name 1 rfl (wE_name 2 rfl ?_))
  refine ⟨_, _, _, _, rfl, rfl, Mu.upd_same, ixN_pos (by omega) (by rw [List.length_map, hg.1]; omega), ?_⟩
  refine wSs_nil ?_
  exact ⟨_, _, _, rfl, by rw [Mu.upd_upd, set_map], hg.set _ (by omega) (by omega)⟩
  obtain ⟨fs, a, b, rfl, rfl, hg⟩ := hI
  refine wSs_frz 1 Mu.upd_same rfl ?_
  rw [Mu.del_upd np]
  refine wSs_cons (wS_ret (wE_name 1 rfl ?_))
  exact q fs hg

abbrev s__law_draw : Stmt := topS 39
abbrev N__law_draw : List Str := ["_law_m", "_law_many_here", "_law_k", "_law_at", "_law_cell"]
theorem sc__law_draw : FnScope N__law_draw ["_law_m", "_law_many_here"] (defScope s__law_draw) := ⟨rfl, rfl, rfl, by decide +kernel, rfl, by decide +kernel, by decide +kernel⟩
def c__law_draw : AC := fun xs μ Q _ => ∃ (m l : Addr) (many : Int) (c : Nat) (rm : Int) (mo : Option (List Str)), xs = [.loc m, .int many] ∧ 0 < many ∧ many < 2 ^ 100 ∧ Lx m l c rm mo μ ∧ c < 2 ^ 40 ∧ ∀ (r : Int) (μ' : Mu), 0 ≤ r → r < many → Lx m l (c + 1) rm mo μ' → Ls m l μ μ' → Q (.int r) μ'
theorem ok__law_draw {n : Nat}  {f : Addr} {fd : FuncData} (TX : Txt K mg w CL CP CTL CTe CPr CPo CNV CTG CCo CS pT) (C__law_mixed : Cal P w K mg base n "_law_mixed" c__law_mixed) (F : Fun K "_law_draw" "_law_draw" s__law_draw f fd) : FnD P w K mg base CX0 (n + 1) f fd ["_law_m", "_law_many_here"] c__law_draw := by
  refine fnD F sc__law_draw (fun xs μ Q E hc => by obtain ⟨m, l, many, c, room, mo, rfl, m0, m1, lw, hc, q⟩ := hc; rfl) (fun cdv Ao outer s H E xs μ Q E0 ar hc => ?_)
  obtain ⟨m, l, many, c, room, mo, rfl, m0, m1, lw, hc, q⟩ := hc
  obtain ⟨⟨fs, left, at_, g1, g2, hg, hl, a0, a1⟩, ne⟩ := lw
  have nd := sc__law_draw.nd
  refine wSs_cons (wS_set 2 (wE_dget ar (wE_name 0 rfl (wE_str ?_))) nd)
  refine ⟨_, _, .inr "at", _, rfl, g1, rfl, rfl, ?_⟩
  refine wSs_cons (wS_dput ar (wE_bin (wE_name 2 rfl (wE_int ?_))))
  refine wO_add ?_
  refine wE_name 0 rfl (wE_str ?_)
  refine ⟨_, _, .inr "at", rfl, g1, rfl, szLt (by have := @dicL_len fs l at_ room mo; omega), ?_⟩
  rw [dicL_at]
  generalize hμ : μ.upd m _ = μ1
  have k1 : μ1 m = some (.dic (dicL fs l (at_ + 1) room mo)) := by rw [← hμ]; exact Mu.upd_same
  have k2 : μ1 l = some (.lst (left.map A.int)) := by rw [← hμ, Mu.upd_ne ne]; exact g2
  have kl : Ls m l μ μ1 := by rw [← hμ]; exact Ls.m
  refine wSs_cut (fun Γ' μ' => (∃ a b, Γ' = [some (.loc m), some (.int many), some (.int at_), a, b]) ∧ μ' = μ1) ?_ (fun Γ' μ' hP => ?_)
  refine wS_if (wT_cmp (wE_dget ar (wE_name 0 rfl (wE_str ?_))))
  refine ⟨_, _, .inr "left", _, rfl, k1, rfl, rfl, ?_⟩
  refine wE_lstF (wA_nil ⟨by show 0 ≤ sizeLine; decide, ?_⟩)
  refine wO_neL ar.u64 (.loc k2) (.lst []) (datInts left) datNil ?_
  rw [eqvNil]
  refine ⟨_, rfl, ?_⟩
  refine ⟨fun hk => ?_, fun hk => ?_⟩
  have hne : left ≠ [] := fun z => by subst z; simp at hk
  have hll : 0 < left.length := List.length_pos_iff.mpr hne
  refine wSs_cons (wS_set 3 (wE_bin (wE_name 2 rfl (wE_callB (id := "len") TX.b_len (by decide +kernel) (wA_cons (wE_dget ar (wE_name 0 rfl (wE_str ?_))))))) nd)
  refine ⟨_, _, .inr "left", _, rfl, k1, rfl, rfl, ?_⟩
  refine wA_nil ?_
  refine wC_len (.loc k2) ?_
  rw [List.length_map]
  walk_at "mod"
  refine wSs_cons (wS_set 4 (wE_ix (wE_dget ar (wE_name 0 rfl (wE_str ?_)))) nd)
  refine ⟨_, _, .inr "left", _, rfl, k1, rfl, rfl, ?_⟩
  refine wE_name 3 rfl ?_
  have hi : at_ % (left.length : Int) < left.length := Int.emod_lt_of_pos _ (by omega)
  have h0 : 0 ≤ at_ % (left.length : Int) := Int.emod_nonneg _ (by omega)
  have hn : (at_ % (left.length : Int)).toNat < left.length := by omega
  refine wI_loc k2 (y := .int left[(at_ % (left.length : Int)).toNat]) (atI_pos (by rw [List.getElem?_map, List.getElem?_eq_getElem hn]; rfl) h0) ?_
  refine wSs_cons (wS_if (wT_cmp (wE_name 4 rfl (wE_int ?_))))
  refine wO_gt ?_
  refine ⟨_, rfl, ?_⟩
  refine ⟨fun hk => ?_, fun hk => ?_⟩
  have hp : 0 < left[(at_ % (left.length : Int)).toNat] := of_decide_eq_true hk
  refine wSs_cons (wS_asg (wE_bin (wE_name 4 rfl (wE_name 1 rfl ?_))))
  refine wO_fdiv m0 (PyProof.noPylong_of_log2 (log2_100 m0 m1)) ?_
  refine wG_sub (wE_dget ar (wE_name 0 rfl (wE_str ?_)))
  refine ⟨_, _, .inr "left", _, rfl, k1, rfl, rfl, ?_⟩
  refine wE_name 3 rfl ?_
  refine ⟨_, _, _, _, rfl, rfl, k2, ixN_pos h0 (by rw [List.length_map]; omega), ?_⟩
  refine wSs_cons (wS_ret (wE_bin (wE_name 4 rfl (wE_name 1 rfl ?_))))
  refine wO_mod m0 ?_
  refine q _ _ (Int.emod_nonneg _ (by omega)) (Int.emod_lt_of_pos _ m0) ⟨⟨fs, left.set (at_ % (left.length : Int)).toNat (left[(at_ % (left.length : Int)).toNat] / many), at_ + 1, by rw [Mu.upd_ne (Ne.symm ne)]; exact k1, by rw [Mu.upd_same, ← set_map], hg, by rw [List.length_set]; exact hl, by omega, by omega⟩, ne⟩ (kl.trans Ls.l)
  refine wSs_nil ?_
  refine wSs_nil ?_
  exact ⟨⟨_, _, rfl⟩, rfl⟩
  skip
  refine wSs_nil ?_
  exact ⟨⟨_, _, rfl⟩, rfl⟩
  obtain ⟨⟨a, b, rfl⟩, rfl⟩ := hP
  refine wSs_cons (wS_ret (wE_bin (wE_cal C__law_mixed ar (by omega) (wA_cons (wE_cal C__law_mixed ar (by omega) (wA_cons (wE_bin (wE_ix (wE_dget ar (wE_name 0 rfl (wE_str ?_)))))))))))
  refine ⟨_, _, .inr "cells", _, rfl, k1, rfl, rfl, ?_⟩
  refine wE_bin (wE_name 2 rfl (wE_int ?_))
  walk_at "mod"
  obtain ⟨v, hv, v0, v1⟩ := hg.at (i := at_ % 64) (by omega) (by omega)
  refine wI_lst hv ?_
  refine wE_bin (wE_int (wE_bin (wE_name 2 rfl (wE_int ?_))))
  walk_at "fdiv"
  walk_at "mul"
  refine wO_add ?_
  refine wA_cons (wE_name 2 rfl (wA_nil ?_))
  refine ⟨_, _, rfl, by omega, by omega, by omega, by omega, fun r r0 r1 => ?_⟩
  refine wA_cons (wE_bin (wE_name 2 rfl (wE_int ?_)))
  refine wO_add ?_
  refine wA_nil ?_
  refine ⟨_, _, rfl, by omega, by omega, by omega, by omega, fun r2 r20 r21 => ?_⟩
  refine wE_name 1 rfl ?_
  walk_at "mod"
  exact q _ _ (Int.emod_nonneg _ (by omega)) (Int.emod_lt_of_pos _ m0) ⟨⟨fs, left, at_ + 1, k1, k2, hg, hl, by omega, by omega⟩, ne⟩ kl

abbrev s__law_begun : Stmt := topS 40
abbrev N__law_begun : List Str := ["_law_script", "_law_m", "_law_cell"]
theorem sc__law_begun : FnScope N__law_begun ["_law_script"] (defScope s__law_begun) := ⟨rfl, rfl, rfl, by decide +kernel, rfl, by decide +kernel, by decide +kernel⟩
def c__law_begun : AC := fun xs μ Q _ => ∃ ns : List Int, xs = [.fls (ns.map A.int)] ∧ ns.length ≤ 63 ∧ ∀ (m l : Addr) (μ' : Mu), μ m = none → Lx m l 0 58 none μ' → Sub μ μ' → Q (.loc m) μ'
theorem ok__law_begun {n : Nat}  {f : Addr} {fd : FuncData} (TX : Txt K mg w CL CP CTL CTe CPr CPo CNV CTG CCo CS pT) (C__law_folded : Cal P w K mg base n "_law_folded" c__law_folded) (F : Fun K "_law_begun" "_law_begun" s__law_begun f fd) : FnD P w K mg base CX0 (n + 1) f fd ["_law_script"] c__law_begun := by
  refine fnD F sc__law_begun (fun xs μ Q E hc => by obtain ⟨ns, rfl, hn, q⟩ := hc; rfl) (fun cdv Ao outer s H E xs μ Q E0 ar hc => ?_)
  obtain ⟨ns, rfl, hn, q⟩ := hc
  have nd := sc__law_begun.nd
  refine wSs_cons (wS_set 1 (wE_disp (wE_str (wE_cal C__law_folded ar (by omega) (wA_cons (wE_name 0 rfl (wA_nil ?_)))))) nd)
  refine ⟨ns, rfl, hn, fun fs hg => ?_⟩
  refine wE_str (wE_lstF (wA_nil ⟨by show 0 ≤ sizeLine; decide, (wE_str (wE_int (wE_str (wE_int ?_))))⟩))
  refine ⟨[(.inr "cells", .lst (fs.map A.int)), (.inr "left", .lst []), (.inr "at", .int 0), (.inr "room", .int 58)] ++ wkL wk0, rfl, by simp [wkL], fun m nm => ?_⟩
  have e1 : mergeA [] ([((.inr "cells" : Key), A.lst (fs.map A.int)), (.inr "left", .lst []), (.inr "at", .int 0), (.inr "room", .int 58)] ++ wkL wk0) = [(.inr "cells", .lst (fs.map A.int)), (.inr "left", .lst []), (.inr "at", .int 0), (.inr "room", .int 58)] ++ wkL wk0 := rfl
  rw [e1]
  refine wSs_cons (wS_dput ar (wE_lc [("_law_cell", 2)] (lcMap (wIt_fls (wE_name 0 rfl ⟨_, rfl, ?_⟩))) nd (blkOk_by (N := N__law_begun) (sc := defScope s__law_begun) (by decide +kernel))))
  refine ⟨by rw [List.length_map]; exact Nat.le_trans hn (by decide), ns.map (fun i => A.int (if 10 ^ 18 ≤ i then i else 0)), by rw [List.length_map, List.length_map], fun i y z hy hz s0 H0 C cl fp => ?_, fun l nl => ?_⟩
  obtain ⟨v, hv, rfl⟩ := map_at hy
  obtain ⟨v2, hv2, rfl⟩ := map_at hz
  obtain rfl : v = v2 := Option.some.inj (hv.symm.trans hv2)
  refine wGw_name 2 (⟨rfl, fun s0 H0 C cl fp => ?_⟩) nd
  refine wE_if (wT_cmp (wE_name 2 rfl (wE_bin (wE_int (wE_int ?_)))))
  refine wO_pow (by decide) ?_
  refine wO_ge ?_
  refine ⟨_, rfl, ?_⟩
  refine ⟨fun hk => ?_, fun hk => ?_⟩
  refine wE_name 2 rfl ?_
  have hk2 : (10 : Int) ^ 18 ≤ v := of_decide_eq_true hk
  exact ⟨by rw [if_pos hk2], .refl _⟩
  refine wE_int ?_
  refine ⟨?_, .refl _⟩
  have hk2 : ¬ (10 : Int) ^ 18 ≤ v := of_decide_eq_false hk
  rw [if_neg hk2]
  refine wE_name 1 rfl (wE_str ?_)
  have nlm : l ≠ m := fun z => by rw [z, Mu.upd_same] at nl; cases nl
  have nl0 : μ l = none := by rw [Mu.upd_ne nlm] at nl; exact nl
  refine ⟨_, _, .inr "left", rfl, by rw [Mu.upd_ne (Ne.symm nlm)]; exact Mu.upd_same, rfl, szLt (by simp [wkL]), ?_⟩
  have e2 : putA ([(.inr "cells", .lst (fs.map A.int)), (.inr "left", .lst []), (.inr "at", .int 0), (.inr "room", .int 58)] ++ wkL wk0) (.inr "left" : Key) (.loc l) = dicL ⟨fs, wk0⟩ l 0 58 none := rfl
  rw [e2]
  refine wSs_cons (wS_ret (wE_name 1 rfl ?_))
  refine q m l _ nm ⟨⟨⟨fs, wk0⟩, ns.map (fun i => if 10 ^ 18 ≤ i then i else 0), 0, Mu.upd_same, ?_, hg, by rw [List.length_map]; exact hn, Int.le_refl _, Int.le_refl _⟩, nlm⟩ ?_
  · rw [Mu.upd_ne nlm, Mu.upd_same, List.map_map]; rfl
  · intro p o h
    have h1 : p ≠ m := fun z => by rw [z, nm] at h; cases h
    have h2 : p ≠ l := fun z => by rw [z, nl0] at h; cases h
    rw [Mu.upd_ne h1, Mu.upd_ne h2, Mu.upd_ne h1]
    exact h

end
end D

namespace D
open PySem PySem.Spec PyProof.Rows L2 TL
def ZZL : List Str := ["zzq", "zzp", "zza", "zzb"]
def ZZT : List (List Nat) := [[122, 122, 113], [122, 122, 112], [122, 122, 97], [122, 122, 98]]
theorem zz_tl : ZZL.map tl = ZZT := by decide +kernel
theorem zz_mem {w : Str} (h : w ∈ ZZL) : tl w ∈ ZZT := by rw [← zz_tl]; exact List.mem_map.mpr ⟨w, h, rfl⟩
theorem zz_3 : ((List.range 26).all fun s => (List.range 26).all fun a => (List.range 8).all fun k => !ZZT.contains (lt ((a : Nat) : Int) :: (baseL ((s : Nat) : Int)).take k)) = true := by decide +kernel
theorem zz_e : ((List.range 26).all fun s => (List.range 26).all fun a => (List.range 7).all fun p => (List.range 8).all fun z => !ZZT.contains ((baseL ((s : Nat) : Int)).take p ++ lt ((a : Nat) : Int) :: ((baseL ((s : Nat) : Int)).drop (p + 1)).take (z - (p + 1)))) = true := by decide +kernel
theorem no_zz {start way size at_ stride : Int} (h : NmP start size at_ stride) (s26 : start < 26) (i : Nat) : nmW start way size at_ stride (baseW start) i ∉ ZZL := fun hm => by
  have ht := zz_mem hm
  have h1 := h.a0
  have h2 := h.a1
  have h3 := h.z
  have h0 := h.s0
  have m0 := Int.emod_nonneg (start + stride * (0 + (i : Int))) (show (26 : Int) ≠ 0 by decide)
  have m1 := Int.emod_lt_of_pos (start + stride * (0 + (i : Int))) (show (0 : Int) < 26 by decide)
  by_cases hw : way = 3
  · subst hw
    rw [tl_way3 h] at ht
    have k0 := Int.emod_nonneg ((0 + (i : Int)) * stride) (show (8 : Int) ≠ 0 by decide)
    have k1 := Int.emod_lt_of_pos ((0 + (i : Int)) * stride) (show (0 : Int) < 8 by decide)
    have := List.all_eq_true.mp (List.all_eq_true.mp (List.all_eq_true.mp zz_3 start.toNat (List.mem_range.mpr (by omega))) ((start + stride * (0 + (i : Int))) % 26).toNat (List.mem_range.mpr (by omega))) ((0 + (i : Int)) * stride % 8).toNat (List.mem_range.mpr (by omega))
    rw [Int.toNat_of_nonneg h0, Int.toNat_of_nonneg m0] at this
    rw [List.contains_iff_mem.mpr ht] at this
    cases this
  · rw [tl_else h hw] at ht
    have := List.all_eq_true.mp (List.all_eq_true.mp (List.all_eq_true.mp (List.all_eq_true.mp zz_e start.toNat (List.mem_range.mpr (by omega))) ((start + stride * (0 + (i : Int))) % 26).toNat (List.mem_range.mpr (by omega))) at_.toNat (List.mem_range.mpr (by omega))) size.toNat (List.mem_range.mpr (by omega))
    rw [Int.toNat_of_nonneg h0, Int.toNat_of_nonneg m0] at this
    rw [List.contains_iff_mem.mpr ht] at this
    cases this
theorem fix_zz {w : Str} (h : w ∉ ZZL) (hl : 1 ≤ w.length) : fixN w ∉ ZZL := fun hm => by
  unfold fixN at hm
  split at hm
  · have e := zz_mem hm
    have l3 : ∀ t ∈ ZZT, t.length = 3 := by decide
    have l := l3 _ e
    rw [tl_append, tl_append, tl_cut0 _ (by decide)] at l
    simp only [List.length_append, List.length_take] at l
    have e1 : (tl ("zz" : Str)).length = 2 := by decide +kernel
    have e2 : (tl ("z" : Str)).length = 1 := by decide +kernel
    have e3 : 1 ≤ (tl w).length := hl
    rw [e1, e2, show (1 : Int).toNat = 1 from rfl, Nat.min_eq_left e3] at l
    omega
  · exact h hm
end D

namespace D
open PySem PySem.Spec PyProof.Rows L2
local macro_rules | `(tactic| walk_at "mul") => `(tactic| first | refine wO_mul (mulR (by first | decide | omega) (by first | decide | omega)) ?_ | refine wO_mul (mulL (by first | decide | omega) (by first | decide | omega)) ?_)
local macro_rules | `(tactic| walk_at "mod") => `(tactic| refine wO_mod (by first | decide | omega) ?_)
local macro_rules | `(tactic| walk_at "fdiv") => `(tactic| refine wO_fdiv (by first | decide | omega) (divS (by first | decide | omega)) ?_)
local macro_rules | `(tactic| walk_at "ix") => `(tactic| first | refine wI_tup (by rfl) ?_ | refine wI_lst (by rfl) ?_)
local macro_rules | `(tactic| walk_at "sl") => `(tactic| first | refine wSl_tup ?_ | refine wSl_lstF ?_)
local macro_rules | `(tactic| walk_at "obj") => `(tactic| refine ⟨_, _, _, rfl, by assumption, rfl, ?_⟩)
local macro_rules | `(tactic| walk_at "len") => `(tactic| first | refine wC_len (.tup _) ?_ | refine wC_len (.lst _) ?_ | refine wC_len (.loc (by assumption)) ?_)
section
variable {P : Program} {w : World} {mg : Str → Option Value} {base : Heap} {K : PySem.W.Frag} {CL CP CTL CTe CPr CPo CNV CTG CCo CS pT : Addr} {k : Nat}
abbrev s__law_names : Stmt := topS 41
abbrev N__law_names : List Str := ["_law_m", "_law_many_here", "_law_letters", "_law_start", "_law_way", "_law_size", "_law_at", "_law_stride", "_law_base", "_law_j", "_law_found", "_law_k", "_law_mark", "_law_bars", "_law_name"]
theorem sc__law_names : FnScope N__law_names ["_law_m", "_law_many_here"] (defScope s__law_names) := ⟨rfl, rfl, rfl, by decide +kernel, rfl, by decide +kernel, by decide +kernel⟩
theorem atI_ex {xs : List D.A} {i : Int} (h0 : 0 ≤ i) (h1 : i < xs.length) : ∃ y ∈ xs, atI xs i = some y := by
  have h : i.toNat < xs.length := by omega
  exact ⟨xs[i.toNat], List.getElem_mem h, atI_pos (List.getElem?_eq_getElem h) h0⟩
def c__law_names : AC := fun xs μ Q _ => ∃ (m l : Addr) (c many : Nat) (rm : Int) (mo : Option (List Str)), xs = [.loc m, .int many] ∧ many ≤ 12 ∧ Lx m l c rm mo μ ∧ c < 2 ^ 39 ∧ ∀ (ws : List Str) (μ' : Mu), ws.length = many → (∀ w ∈ ws, isNm (.str w) = true ∧ w ∉ ZZL) → ws.Nodup → Lx m l (c + 5) rm mo μ' → Ls m l μ μ' → Q (.lst (ws.map D.A.str)) μ'
theorem ok__law_names {n : Nat}  {f : Addr} {fd : FuncData} (TX : Txt K mg w CL CP CTL CTe CPr CPo CNV CTG CCo CS pT) (C__law_draw : Cal P w K mg base n "_law_draw" c__law_draw) (F : Fun K "_law_names" "_law_names" s__law_names f fd) : FnD P w K mg base CX0 (n + 1) f fd ["_law_m", "_law_many_here"] c__law_names := by
  refine fnD F sc__law_names (fun xs μ Q E hc => by obtain ⟨m, l, c, many, rm, mo, rfl, hmany, lw, hc, q⟩ := hc; rfl) (fun cdv Ao outer s H E xs μ Q E0 ar hc => ?_)
  obtain ⟨m, l, c, many, rm, mo, rfl, hmany, lw, hc, q⟩ := hc
  have nd := sc__law_names.nd
  refine wSs_cons (wS_set 2 (wE_str (wSs_cons (wS_asg (wE_tup (wA_cons (wE_cal C__law_draw ar (by omega) (wA_cons (wE_name 0 rfl (wA_cons (wE_int (wA_nil ?_))))))))))) nd)
  refine ⟨m, l, 26, c, _, _, rfl, by decide, by decide, lw, by omega, fun start μ1 a0 a1 lw1 ls1 => ?_⟩
  refine wA_cons (wE_cal C__law_draw ar (by omega) (wA_cons (wE_name 0 rfl (wA_cons (wE_int (wA_nil ?_))))))
  refine ⟨m, l, 4, _, _, _, rfl, by decide, by decide, lw1, by omega, fun way μ2 b0 b1 lw2 ls2 => ?_⟩
  refine wA_nil ⟨by show 2 ≤ sizeLine; decide, (wG_tup (wGs_cons (wG_name 3 (wGs_cons (wG_name 4 (wGs_nil ?_) nd)) nd)))⟩
  refine wSs_cons (wS_set 5 (wE_bin (wE_int (wE_cal C__law_draw ar (by omega) (wA_cons (wE_name 0 rfl (wA_cons (wE_int (wA_nil ?_)))))))) nd)
  refine ⟨m, l, 7, _, _, _, rfl, by decide, by decide, lw2, by omega, fun r3 μ3 c0 c1 lw3 ls3 => ?_⟩
  refine wO_add ?_
  refine wSs_cons (wS_set 6 (wE_cal C__law_draw ar (by omega) (wA_cons (wE_name 0 rfl (wA_cons (wE_name 5 rfl (wA_nil ?_)))))) nd)
  refine ⟨m, l, _, _, _, _, rfl, by omega, by omega, lw3, by omega, fun at_ μ4 d0 d1 lw4 ls4 => ?_⟩
  refine wSs_cons (wS_set 7 (wE_ix (wE_lstF (wA_cons (wE_int (wA_cons (wE_int (wA_cons (wE_int (wA_cons (wE_int (wA_cons (wE_int (wA_cons (wE_int (wA_nil ⟨by show 6 ≤ sizeLine; decide, (wE_cal C__law_draw ar (by omega) (wA_cons (wE_name 0 rfl (wA_cons (wE_int (wA_nil ?_))))))⟩))))))))))))))) nd)
  refine ⟨m, l, 6, _, _, _, rfl, by decide, by decide, lw4, by omega, fun r5 μ5 e0 e1 lw5 ls5 => ?_⟩
  obtain ⟨y1, hy1, ey1⟩ := atI_ex (xs := [D.A.int 1, .int 3, .int 7, .int 11, .int 17, .int 25]) e0 (by simpa using e1)
  obtain ⟨stride, rfl, z0, z1, zs⟩ : ∃ z : Int, y1 = .int z ∧ 1 ≤ z ∧ z ≤ 25 ∧ (z = 1 ∨ z = 3 ∨ z = 7 ∨ z = 11 ∨ z = 17 ∨ z = 25) := by
    simp only [List.mem_cons, List.not_mem_nil, or_false] at hy1
    rcases hy1 with rfl | rfl | rfl | rfl | rfl | rfl <;> exact ⟨_, rfl, by decide, by decide, by decide⟩
  have hP : NmP start (1 + r3) at_ stride := ⟨a0, d0, d1, by omega, zs⟩
  refine wI_lst ey1 ?_
  refine wSs_cons (wS_set 8 (wE_m1 PySem.F.slot_str_join PySem.F.type_str_join (wE_str ⟨_, rfl, (wE_lcF (own := [("_law_j", 9)]) (wIt_range1 TX.b_range (wA_cons (wE_int (wA_nil ⟨_, rfl, by omega, by omega, ?_⟩)))) nd (blkOk_by (N := N__law_names) (sc := defScope s__law_names) (by decide +kernel)))⟩)) nd)
  refine ⟨by rw [rgA_len]; decide, ((List.range 8).map (fun (j : Nat) => ltr ((start + 5 * (0 + (j : Int))) % 26))).map D.A.str, by simp [rgA_len], fun i y z hy hz s0 H0 C cl fp => ?_, ?_⟩
  obtain ⟨hi, rfl⟩ := rgA_at hy
  refine wGw_name 9 (⟨rfl, fun s0 H0 C cl fp => (wE_ix (wE_name 2 rfl (wE_bin (wE_bin (wE_name 3 rfl (wE_bin (wE_int (wE_name 9 rfl ?_))))))))⟩) nd
  walk_at "mul"
  refine wO_add ?_
  refine wE_int ?_
  walk_at "mod"
  refine wI_str (by decide) (ltr_at (by omega) (by omega)) ?_
  refine ⟨?_, .refl _⟩
  obtain ⟨w1, hw1, rfl⟩ := map_at hz
  obtain ⟨_, rfl⟩ := mapR_at hw1
  rfl
  refine wM_join (.inl (.lst _)) (by rw [sum_ltrs, List.length_map, List.length_range]; decide) ?_
  rw [show Txt.join "" ((List.range 8).map (fun (j : Nat) => ltr ((start + 5 * (0 + (j : Int))) % 26))) = baseW start from rfl]
  generalize hB : baseW start = base
  have lb : letA base = true := by rw [← hB]; unfold baseW; exact letA_join (fun w hw => by obtain ⟨j, _, rfl⟩ := List.mem_map.mp hw; exact letA_ltr _)
  have nb : base.length ≤ 8 := by rw [← hB]; unfold baseW; exact len_ltrs _ 8
  refine wSs_cons (wS_set 10 (wE_lst (wA_nil ⟨by show 0 ≤ sizeLine; decide, fun p__law_found np__law_found => (wSs_cons (wS_for (wIt_range1 TX.b_range (wA_cons (wE_name 1 rfl (wA_nil ⟨_, rfl, by omega, by omega, ?_⟩))))))⟩)) nd)
  refine ⟨fun i Γ' μ' => ∃ (ws : List Str) (a b : Option D.A), Γ' = [some (.loc m), some (.int many), some (.str LETS), some (.int start), some (.int way), some (.int (1 + r3)), some (.int at_), some (.int stride), some (.str base), none, some (.loc p__law_found), a, b, none, none] ∧ μ' = μ5.upd p__law_found (.lst (ws.map D.A.str)) ∧ ws = (List.range i).map (nmW start way (1 + r3) at_ stride base) ∧ ∀ w ∈ ws, NmOk w, ⟨[], _, _, rfl, rfl, rfl, fun _ h => nomatch h⟩, fun i y Γ' μ' hy hI => ?_, fun Γ' μ' hI => ?_⟩
  obtain ⟨ws, a, b, rfl, rfl, hws, hok⟩ := hI
  obtain ⟨hi, rfl⟩ := rgA_at hy
  have hwl : ws.length = i := by rw [hws]; simp
  have hi2 : i < 100 := by omega
  refine wG_name 11 ?_ nd
  refine wSs_cons (wS_set 12 (wE_ix (wE_name 2 rfl (wE_bin (wE_bin (wE_name 3 rfl (wE_bin (wE_name 7 rfl (wE_name 11 rfl ?_)))))))) nd)
  walk_at "mul"
  refine wO_add ?_
  refine wE_int ?_
  walk_at "mod"
  refine wI_str (by decide) (ltr_at (Int.emod_nonneg _ (by decide)) (Int.emod_lt_of_pos _ (by decide))) ?_
  refine wSs_cut (fun Γ' μ' => ∃ (w : Str) (a b : Option D.A), NmOk w ∧ w = nmW start way (1 + r3) at_ stride base i ∧ Γ' = [some (.loc m), some (.int many), some (.str LETS), some (.int start), some (.int way), some (.int (1 + r3)), some (.int at_), some (.int stride), some (.str base), none, some (.loc p__law_found), a, b, none, none] ∧ μ' = μ5.upd p__law_found (.lst ((ws ++ [w]).map D.A.str))) ?_ (fun Γ' μ' hP => ?_)
  generalize hg : ({ cps := #[LETS.cps.toList.getD ((start + stride * (0 + (i : Int))) % 26).toNat 97] } : Str) = mark
  have lm : letA mark = true := by rw [← hg]; exact letA_ltr ((start + stride * (0 + (i : Int))) % 26)
  have nm1 : mark.length = 1 := by rw [← hg]; rfl
  refine wS_if (wT_cmp (wE_name 4 rfl (wE_int ?_)))
  refine wO_eqI ?_
  refine ⟨_, rfl, ?_⟩
  refine ⟨fun hk => ?_, fun hk => ?_⟩
  refine wSs_cons (wS_expr (wE_append (wE_name 10 rfl ?_)))
  refine ⟨_, _, rfl, Mu.upd_same, ?_⟩
  refine wE_bin (wE_name 12 rfl (wE_slice (wE_name 8 rfl (wE_bin (wE_bin (wE_name 11 rfl (wE_name 7 rfl ?_)))))))
  walk_at "mul"
  refine wE_int ?_
  walk_at "mod"
  refine ⟨_, rfl, ?_⟩
  refine wSl_str (szOk (by omega)) ?_
  refine wO_addS (szOk (by have := cutS_hi base ((0 + (i : Int)) * stride % 8) (by omega); omega)) ?_
  refine ⟨_, Mu.upd_same, szLt (by rw [List.length_map]; omega), ?_⟩
  refine wSs_nil ?_
  have hw3 : way = 3 := of_decide_eq_true hk
  have n2 := cutS_hi base ((0 + (i : Int)) * stride % 8) (by omega)
  refine ⟨mark ++ cutS base none (some ((0 + (i : Int)) * stride % 8)), _, _, ⟨?_, ?_, ?_⟩, by unfold nmW; rw [if_pos hw3, ← hg]; rfl, rfl, by rw [Mu.upd_upd, List.map_append]; rfl⟩
  · rw [letA_app, lm, letA_cut lb]; rfl
  · rw [Str.length_append]; omega
  · rw [Str.length_append]; omega
  refine wSs_cons (wS_expr (wE_append (wE_name 10 rfl ?_)))
  refine ⟨_, _, rfl, Mu.upd_same, ?_⟩
  refine wE_bin (wE_bin (wE_slice (wE_name 8 rfl (wE_name 6 rfl ⟨_, rfl, ?_⟩))))
  refine wSl_str (szOk (by omega)) ?_
  refine wE_name 12 rfl ?_
  refine wO_addS (szOk (by have := cutS_hi base at_ (by omega); omega)) ?_
  refine wE_slice (wE_name 8 rfl (wE_bin (wE_name 6 rfl (wE_int ?_))))
  refine wO_add ?_
  refine ⟨_, rfl, (wE_name 5 rfl ⟨_, rfl, ?_⟩)⟩
  refine wSl_str (szOk (by omega)) ?_
  refine wO_addS (szOk (by have := cutS_hi base at_ (by omega); have := cutS_mid base (at_ + 1) (1 + r3) (by omega); rw [Str.length_append]; omega)) ?_
  refine ⟨_, Mu.upd_same, szLt (by rw [List.length_map]; omega), ?_⟩
  refine wSs_nil ?_
  have hw3 : ¬ way = 3 := of_decide_eq_false hk
  have n2 := cutS_hi base at_ (by omega)
  have n3 := cutS_mid base (at_ + 1) (1 + r3) (by omega)
  refine ⟨cutS base none (some at_) ++ mark ++ cutS base (some (at_ + 1)) (some (1 + r3)), _, _, ⟨?_, ?_, ?_⟩, by unfold nmW; rw [if_neg hw3, ← hg]; rfl, rfl, by rw [Mu.upd_upd, List.map_append]; rfl⟩
  · rw [letA_app, letA_app, lm, letA_cut lb, letA_cut lb]; rfl
  · rw [Str.length_append, Str.length_append]; omega
  · rw [Str.length_append, Str.length_append]; omega
  obtain ⟨w, a, b, hw, ew, rfl, rfl⟩ := hP
  refine wSs_nil ?_
  refine ⟨ws ++ [w], _, _, rfl, rfl, by rw [hws, ew, List.range_succ, List.map_append]; rfl, fun x hx => ?_⟩
  rcases List.mem_append.mp hx with hx | hx
  · exact hok x hx
  · rw [List.mem_singleton.mp hx]; exact hw
  obtain ⟨ws, a, b, rfl, rfl, hws, hok⟩ := hI
  rw [rgA_len, Int.toNat_natCast] at hws
  have hwl : ws.length = many := by rw [hws]; simp
  refine wSs_cons (wS_set 13 (wE_m1 PySem.F.slot_str_split PySem.F.type_str_split (wE_str ⟨_, rfl, (wE_str ?_)⟩)) nd)
  refine wM_split (by decide) (by decide) ?_
  rw [split_bars]
  refine wSs_frz 10 Mu.upd_same rfl ?_
  rw [Mu.del_upd np__law_found]
  refine wSs_cons (wS_ret (wE_lcF (own := [("_law_name", 14)]) (wIt_list (wE_name 10 rfl ⟨_, rfl, ?_⟩)) nd (blkOk_by (N := N__law_names) (sc := defScope s__law_names) (by decide +kernel))))
  refine ⟨szOk (by rw [List.length_map]; omega), (ws.map fixN).map D.A.str, by simp, fun i y z hy hz s0 H0 C cl fp => ?_, ?_⟩
  obtain ⟨w, h1, rfl⟩ := map_at hy
  obtain ⟨w2, h2, rfl⟩ := map_at hz
  obtain ⟨w3, h3, rfl⟩ := map_at h2
  obtain rfl : w = w3 := Option.some.inj (h1.symm.trans h3)
  have hn := hok w (List.mem_of_getElem? h1)
  refine wGw_name 14 (⟨rfl, fun s0 H0 C cl fp => ?_⟩) nd
  refine wE_if (wT_cmp (wE_name 14 rfl (wE_name 13 rfl ?_)))
  refine wO_notIn (.lst _) rfl (by rfl) ?_
  refine ⟨_, rfl, ?_⟩
  refine ⟨fun hk => ?_, fun hk => ?_⟩
  refine wE_name 14 rfl ?_
  exact ⟨by unfold fixN; rw [if_neg (by simpa using hk)], .refl _⟩
  refine wE_bin (wE_bin (wE_str (wE_slice (wE_name 14 rfl (wE_int ⟨_, rfl, ?_⟩)))))
  refine wSl_str (szOk (by have := hn.hi; omega)) ?_
  refine wO_addS (szOk (by have := cutS_hi w 1 (by omega); have e2 : ("zz" : Str).length = 2 := (by decide); omega)) ?_
  refine wE_str ?_
  refine wO_addS (szOk (by have := cutS_hi w 1 (by omega); have e2 : ("zz" : Str).length = 2 := (by decide); have e3 : ("z" : Str).length = 1 := (by decide); rw [Str.length_append]; omega)) ?_
  refine ⟨?_, .refl _⟩
  unfold fixN; rw [if_pos (by simpa using hk)]
  refine q _ _ (by simp [hwl]) (fun w hw => ?_) (by rw [hws, ← hB]; exact names_unlike hP (by omega)) lw5 ((((ls1.trans ls2).trans ls3).trans ls4).trans ls5)
  obtain ⟨w0, hw0, rfl⟩ := List.mem_map.mp hw
  refine ⟨fixN_ok (hok w0 hw0), fix_zz ?_ (hok w0 hw0).lo⟩
  rw [hws] at hw0
  obtain ⟨j, _, rfl⟩ := List.mem_map.mp hw0
  rw [← hB]
  exact no_zz hP a1 j

abbrev s__law_common : Stmt := topS 42
abbrev N__law_common : List Str := ["_law_one", "_law_other"]
theorem sc__law_common : FnScope N__law_common ["_law_one", "_law_other"] (defScope s__law_common) := ⟨rfl, rfl, rfl, by decide +kernel, rfl, by decide +kernel, by decide +kernel⟩
def c__law_common : AC := fun xs μ Q _ => ∃ a b : Int, xs = [.int a, .int b] ∧ Q (.int (Int.gcd a b : Nat)) μ
theorem ok__law_common {n : Nat}  {f : Addr} {fd : FuncData} (TX : Txt K mg w CL CP CTL CTe CPr CPo CNV CTG CCo CS pT)  (F : Fun K "_law_common" "_law_common" s__law_common f fd) : FnD P w K mg base CX0 (n + 1) f fd ["_law_one", "_law_other"] c__law_common := by
  refine fnD F sc__law_common (fun xs μ Q E hc => by obtain ⟨a, b, rfl, q⟩ := hc; rfl) (fun cdv Ao outer s H E xs μ Q E0 ar hc => ?_)
  obtain ⟨a, b, rfl, q⟩ := hc
  have nd := sc__law_common.nd
  refine wSs_cons (wS_par 0 1 (wA_cons (wE_callB (id := "abs") TX.b_abs (by decide +kernel) (wA_cons (wE_name 0 rfl (wA_nil ?_))))) nd)
  refine wC_abs ?_
  refine wA_cons (wE_callB (id := "abs") TX.b_abs (by decide +kernel) (wA_cons (wE_name 1 rfl (wA_nil ?_))))
  refine wC_abs ?_
  refine wA_nil ⟨_, _, rfl, (wSs_cons ?_)⟩
  refine wS_while (fun m Γ' μ' => ∃ x y : Nat, Γ' = [some (.int x), some (.int y)] ∧ μ = μ' ∧ Nat.gcd x y = Int.gcd a b ∧ y ≤ m) b.natAbs ⟨a.natAbs, b.natAbs, ?_, rfl, rfl, Nat.le_refl _⟩ (fun m Γ' μ' hW => ?_)
  · have e1 : (if a < 0 then -a else a) = (a.natAbs : Int) := by split <;> omega
    have e2 : (if b < 0 then -b else b) = (b.natAbs : Int) := by split <;> omega
    rw [e1, e2]; rfl
  obtain ⟨x, y, rfl, rfl, hg, hy⟩ := hW
  refine wT_cmp (wE_name 1 rfl (wE_int ?_))
  refine wO_gt ?_
  refine ⟨_, rfl, ?_⟩
  refine ⟨fun hk => ?_, fun hk => ?_⟩
  have hk2 : (0 : Int) < y := of_decide_eq_true hk
  refine wSs_cons (wS_par 0 1 (wA_cons (wE_name 1 rfl (wA_cons (wE_bin (wE_name 0 rfl (wE_name 1 rfl ?_)))))) nd)
  walk_at "mod"
  refine wA_nil ⟨_, _, rfl, (wSs_nil ?_)⟩
  refine ⟨x % y, Nat.lt_of_lt_of_le (Nat.mod_lt _ (by omega)) hy, y, x % y, rfl, rfl, ?_, Nat.le_refl _⟩
  rw [← hg, Nat.gcd_comm x y, Nat.gcd_rec y x, Nat.gcd_comm]
  have hk2 : ¬ (0 : Int) < y := of_decide_eq_false hk
  obtain rfl : y = 0 := by omega
  rw [Nat.gcd_zero_right] at hg
  refine wSs_cons (wS_ret (wE_name 0 rfl ?_))
  rw [hg]; exact q

abbrev s__law_lowest : Stmt := topS 43
abbrev N__law_lowest : List Str := ["_law_n", "_law_d", "_law_part"]
theorem sc__law_lowest : FnScope N__law_lowest ["_law_n", "_law_d"] (defScope s__law_lowest) := ⟨rfl, rfl, rfl, by decide +kernel, rfl, by decide +kernel, by decide +kernel⟩
def c__law_lowest : AC := fun xs μ Q _ => ∃ n d : Int, xs = [.int n, .int d] ∧ d ≠ 0 ∧ Bd 8000 d ∧ Q (low n d) μ
theorem ok__law_lowest {n : Nat}  {f : Addr} {fd : FuncData} (TX : Txt K mg w CL CP CTL CTe CPr CPo CNV CTG CCo CS pT) (C__law_common : Cal P w K mg base n "_law_common" c__law_common) (F : Fun K "_law_lowest" "_law_lowest" s__law_lowest f fd) : FnD P w K mg base CX0 (n + 1) f fd ["_law_n", "_law_d"] c__law_lowest := by
  refine fnD F sc__law_lowest (fun xs μ Q E hc => by obtain ⟨n, d, rfl, d0, hd, q⟩ := hc; rfl) (fun cdv Ao outer s H E xs μ Q E0 ar hc => ?_)
  obtain ⟨n, d, rfl, d0, hd, q⟩ := hc
  have nd := sc__law_lowest.nd
  refine wSs_cons (wS_set 2 (wE_cal C__law_common ar (by omega) (wA_cons (wE_name 0 rfl (wA_cons (wE_name 1 rfl (wA_nil ?_)))))) nd)
  refine ⟨n, d, rfl, ?_⟩
  refine wSs_cons (wS_set 2 ?_ nd)
  refine wE.imp (Q := fun z μ' => μ = μ' ∧ z = .int (part n d)) ?_ (fun z μ' hz => ?_)
  refine wE_if (wT_cmp (wE_name 1 rfl (wE_int ?_)))
  refine wO_gt ?_
  refine ⟨_, rfl, ?_⟩
  refine ⟨fun hk => ?_, fun hk => ?_⟩
  refine wE_name 2 rfl ?_
  exact ⟨rfl, by unfold part; rw [if_pos (of_decide_eq_true hk)]⟩
  refine wE_bin (wE_int (wE_name 2 rfl ?_))
  refine wO_sub ?_
  exact ⟨rfl, by unfold part; rw [if_neg (of_decide_eq_false hk)]⟩
  obtain ⟨rfl, rfl⟩ := hz
  refine wSs_cons (wS_ret (wE_tup (wA_cons (wE_bin (wE_name 0 rfl (wE_name 2 rfl ?_))))))
  refine wO_fdivN (part_ne d0) ((part_bd d0 hd).noPy (by decide) (by decide)) ?_
  refine wA_cons (wE_bin (wE_name 1 rfl (wE_name 2 rfl ?_)))
  refine wO_fdivN (part_ne d0) ((part_bd d0 hd).noPy (by decide) (by decide)) ?_
  refine wA_nil ⟨by show 2 ≤ sizeLine; decide, ?_⟩
  exact q

abbrev s__law_fraction : Stmt := topS 44
abbrev N__law_fraction : List Str := ["_law_m", "_law_size", "_law_below"]
theorem sc__law_fraction : FnScope N__law_fraction ["_law_m"] (defScope s__law_fraction) := ⟨rfl, rfl, rfl, by decide +kernel, rfl, by decide +kernel, by decide +kernel⟩
def c__law_fraction : AC := fun xs μ Q _ => ∃ (m l : Addr) (c : Nat) (rm : Int) (mo : Option (List Str)), xs = [.loc m] ∧ Lx m l c rm mo μ ∧ c < 2 ^ 39 ∧ ∀ (n d : Int) (μ' : Mu), Fr n d → n.natAbs ≤ 10 ^ 20 → d ≤ 9 → Lx m l (c + 4) rm mo μ' → Ls m l μ μ' → Q (.tup [.int n, .int d]) μ'
theorem ok__law_fraction {n : Nat}  {f : Addr} {fd : FuncData} (TX : Txt K mg w CL CP CTL CTe CPr CPo CNV CTG CCo CS pT) (C__law_draw : Cal P w K mg base n "_law_draw" c__law_draw) (C__law_lowest : Cal P w K mg base n "_law_lowest" c__law_lowest) (F : Fun K "_law_fraction" "_law_fraction" s__law_fraction f fd) : FnD P w K mg base CX0 (n + 1) f fd ["_law_m"] c__law_fraction := by
  refine fnD F sc__law_fraction (fun xs μ Q E hc => by obtain ⟨m, l, c, rm, mo, rfl, lw, hc, q⟩ := hc; rfl) (fun cdv Ao outer s H E xs μ Q E0 ar hc => ?_)
  obtain ⟨m, l, c, rm, mo, rfl, lw, hc, q⟩ := hc
  have nd := sc__law_fraction.nd
  refine wSs_cons (wS_set 1 (wE_ix (wE_lstF (wA_cons (wE_int (wA_cons (wE_int (wA_cons (wE_int (wA_cons (wE_int (wA_cons (wE_int (wA_cons (wE_bin (wE_int (wE_int ?_)))))))))))))))) nd)
  refine wO_pow (by decide) ?_
  refine wA_nil ⟨by show 6 ≤ sizeLine; decide, (wE_cal C__law_draw ar (by omega) (wA_cons (wE_name 0 rfl (wA_cons (wE_int (wA_nil ?_))))))⟩
  refine ⟨m, l, 6, c, _, _, rfl, by decide, by decide, lw, by omega, fun r1 μ1 a0 a1 lw1 ls1 => ?_⟩
  obtain ⟨y1, hy1, e1⟩ := atI_ex (xs := [D.A.int 1, .int 4, .int 9, .int 30, .int 30, .int (10 ^ (20 : Int).toNat)]) a0 (by simpa using a1)
  obtain ⟨z, rfl, z0, z1⟩ : ∃ z : Int, y1 = .int z ∧ 1 ≤ z ∧ z ≤ 10 ^ 20 := by
    simp only [List.mem_cons, List.not_mem_nil, or_false] at hy1
    rcases hy1 with rfl | rfl | rfl | rfl | rfl | rfl <;> exact ⟨_, rfl, by decide, by decide⟩
  refine wI_lst e1 ?_
  refine wSs_cons (wS_set 2 (wE_ix (wE_lstF (wA_cons (wE_int (wA_cons (wE_int (wA_cons (wE_int (wA_cons (wE_int (wA_cons (wE_bin (wE_int (wE_cal C__law_draw ar (by omega) (wA_cons (wE_name 0 rfl (wA_cons (wE_int (wA_nil ?_))))))))))))))))))) nd)
  refine ⟨m, l, 9, _, _, _, rfl, by decide, by decide, lw1, by omega, fun r2 μ2 b0 b1 lw2 ls2 => ?_⟩
  refine wO_add ?_
  refine wA_nil ⟨by show 5 ≤ sizeLine; decide, (wE_cal C__law_draw ar (by omega) (wA_cons (wE_name 0 rfl (wA_cons (wE_int (wA_nil ?_))))))⟩
  refine ⟨m, l, 5, _, _, _, rfl, by decide, by decide, lw2, by omega, fun r3 μ3 d0 d1 lw3 ls3 => ?_⟩
  obtain ⟨y2, hy2, e2⟩ := atI_ex (xs := [D.A.int 1, .int 1, .int 2, .int 3, .int (1 + r2)]) d0 (by simpa using d1)
  obtain ⟨u, rfl, u0, u1⟩ : ∃ u : Int, y2 = .int u ∧ 1 ≤ u ∧ u ≤ 9 := by
    simp only [List.mem_cons, List.not_mem_nil, or_false] at hy2
    rcases hy2 with rfl | rfl | rfl | rfl | rfl <;> exact ⟨_, rfl, by omega, by omega⟩
  refine wI_lst e2 ?_
  refine wSs_cons (wS_ret (wE_cal C__law_lowest ar (by omega) (wA_cons (wE_bin (wE_cal C__law_draw ar (by omega) (wA_cons (wE_name 0 rfl (wA_cons (wE_bin (wE_bin (wE_int (wE_name 1 rfl ?_))))))))))))
  walk_at "mul"
  refine wE_int ?_
  refine wO_add ?_
  refine wA_nil ?_
  refine ⟨m, l, _, _, _, _, rfl, by omega, by omega, lw3, by omega, fun r4 μ4 f0 f1 lw4 ls4 => ?_⟩
  refine wE_name 1 rfl ?_
  refine wO_sub ?_
  refine wA_cons (wE_name 2 rfl (wA_nil ?_))
  refine ⟨_, _, rfl, by omega, (Bd.of (n := 8) (by omega) (by omega)).mono (by decide), ?_⟩
  have hfr := low_fr (n := r4 - z) (d := u) (by omega)
  have h1 := lowN_le (n := r4 - z) (d := u) (by omega)
  have h2 := lowD_le (n := r4 - z) (d := u) (by omega)
  have h3 := hfr.pos
  exact q _ _ _ hfr (by omega) (by omega) lw4 (((ls1.trans ls2).trans ls3).trans ls4)

end
end D

namespace D
open PySem PySem.Spec PyProof.Rows L2
local macro_rules | `(tactic| walk_at "mul") => `(tactic| first | refine wO_mul (mulR (by first | decide | omega) (by first | decide | omega)) ?_ | refine wO_mul (mulL (by first | decide | omega) (by first | decide | omega)) ?_)
local macro_rules | `(tactic| walk_at "mod") => `(tactic| refine wO_mod (by first | decide | omega) ?_)
local macro_rules | `(tactic| walk_at "fdiv") => `(tactic| refine wO_fdiv (by first | decide | omega) (divS (by first | decide | omega)) ?_)
local macro_rules | `(tactic| walk_at "ix") => `(tactic| first | refine wI_tup (by rfl) ?_ | refine wI_lst (by rfl) ?_)
local macro_rules | `(tactic| walk_at "sl") => `(tactic| first | refine wSl_tup ?_ | refine wSl_lstF ?_)
local macro_rules | `(tactic| walk_at "obj") => `(tactic| refine ⟨_, _, _, rfl, by assumption, rfl, ?_⟩)
local macro_rules | `(tactic| walk_at "len") => `(tactic| first | refine wC_len (.tup _) ?_ | refine wC_len (.lst _) ?_ | refine wC_len (.loc (by assumption)) ?_)
section
variable {P : Program} {w : World} {mg : Str → Option Value} {base : Heap} {K : PySem.W.Frag} {CL CP CTL CTe CPr CPo CNV CTG CCo CS pT : Addr} {k : Nat}
abbrev s__law_thing : Stmt := topS 45
abbrev N__law_thing : List Str := ["_law_m", "_law_told"]
theorem sc__law_thing : FnScope N__law_thing ["_law_m", "_law_told"] (defScope s__law_thing) := ⟨rfl, rfl, rfl, by decide +kernel, rfl, by decide +kernel, by decide +kernel⟩
theorem datStrs {T : List Str} (h : ∀ w ∈ T, isNm (.str w) = true) : DatOk (.lst (T.map D.A.str)) := by
  refine ⟨?_, ?_⟩
  · simp only [isD]
    refine isDs_all fun a ha => ?_
    obtain ⟨w, hw, rfl⟩ := List.mem_map.mp ha
    simp only [isD]
    exact strOk_let (isNm_let (h w hw)).1
  · have : deeps (T.map D.A.str) ≤ 0 := deeps_le fun a ha => by
      obtain ⟨w, _, rfl⟩ := List.mem_map.mp ha
      simp [deep]
    simp only [deep]; omega
theorem thOk_at {T : List Str} {x : D.A} (hT : ∀ w ∈ T, isNm (.str w) = true) (hx : x ∈ T.map D.A.str) : ThOk T x ∧ ThSm x := by
  obtain ⟨w, hw, rfl⟩ := List.mem_map.mp hx
  obtain ⟨h1, h2, _⟩ := isNm_let (hT w hw)
  exact ⟨.inl ⟨w, rfl, hw, h1, h2⟩, thSm_str h1 h2⟩
theorem atI_back {xs : List D.A} {i : Int} (h0 : i < 0) (h1 : -(xs.length : Int) ≤ i) : ∃ y ∈ xs, atI xs i = some y := by
  have h : (i + xs.length).toNat < xs.length := by omega
  exact ⟨xs[(i + xs.length).toNat], List.getElem_mem h, atI_neg (List.getElem?_eq_getElem h) h0 h1⟩
def c__law_thing : AC := fun xs μ Q _ => ∃ (m l : Addr) (c : Nat) (rm : Int) (mo : Option (List Str)) (T : List Str), xs = [.loc m, .lst (T.map D.A.str)] ∧ Lx m l c rm mo μ ∧ c < 2 ^ 38 ∧ T.length ≤ 1000 ∧ (∀ w ∈ T, isNm (.str w) = true) ∧ ∀ (x : D.A) (μ' : Mu), ThOk T x → ThSm x → Lx m l (c + 5) rm mo μ' → Ls m l μ μ' → Q x μ'
theorem ok__law_thing {n : Nat}  {f : Addr} {fd : FuncData} (TX : Txt K mg w CL CP CTL CTe CPr CPo CNV CTG CCo CS pT) (C__law_draw : Cal P w K mg base n "_law_draw" c__law_draw) (C__law_fraction : Cal P w K mg base n "_law_fraction" c__law_fraction) (F : Fun K "_law_thing" "_law_thing" s__law_thing f fd) : FnD P w K mg base CX0 (n + 1) f fd ["_law_m", "_law_told"] c__law_thing := by
  refine fnD F sc__law_thing (fun xs μ Q E hc => by obtain ⟨m, l, c, rm, mo, T, rfl, lw, hc, hTl, hT, q⟩ := hc; rfl) (fun cdv Ao outer s H E xs μ Q E0 ar hc => ?_)
  obtain ⟨m, l, c, rm, mo, T, rfl, lw, hc, hTl, hT, q⟩ := hc
  have nd := sc__law_thing.nd
  refine wSs_cons (wS_if ?_)
  refine wT.imp (QB := fun k μ' => Lx m l (c + 1) rm mo μ' ∧ Ls m l μ μ' ∧ (k = false → T ≠ [])) ?_ (fun k μ' hq => ?_)
  refine wT_chain (wW_or (wT_cmp (wE_name 1 rfl (wE_lstF (wA_nil ⟨by show 0 ≤ sizeLine; decide, ?_⟩)))))
  refine wO_eqL ar.u64 (.lst _) (.lst []) (datStrs hT) datNil ?_
  rw [eqvNil]
  refine ⟨_, rfl, ?_⟩
  refine ⟨fun hk => ?_, fun hk => ?_⟩
  · exact ⟨lw.up (by omega), Ls.refl _, fun z => nomatch z⟩
  have hne : T ≠ [] := fun z => by subst z; simp at hk
  refine wW_or1 (wT_cmp (wE_cal C__law_draw ar (by omega) (wA_cons (wE_name 0 rfl (wA_cons (wE_int (wA_nil ?_)))))))
  refine ⟨m, l, 4, c, _, _, rfl, by decide, by decide, lw, by omega, fun r1 μ1 a0 a1 lw1 ls1 => ?_⟩
  refine wE_int ?_
  refine wO_eqI ?_
  refine ⟨_, rfl, ?_⟩
  exact ⟨lw1, ls1, fun _ => hne⟩
  obtain ⟨lw1, ls1, hne⟩ := hq
  refine ⟨fun hk => ?_, fun hk => ?_⟩
  refine wSs_cons (wS_ret (wE_cal C__law_fraction ar (by omega) (wA_cons (wE_name 0 rfl (wA_nil ?_)))))
  refine ⟨m, l, c + 1, _, _, rfl, lw1, by omega, fun n d μ2 hf b1 b2 lw2 ls2 => ?_⟩
  exact q _ _ (.inr ⟨n, d, rfl, hf⟩) (thSm_fr b1 hf.pos b2) lw2 (ls1.trans ls2)
  have hn := hne hk
  have hpos : 0 < T.length := List.length_pos_iff.mpr hn
  refine wSs_nil ?_
  refine wSs_cons (wS_if (wT_cmp (wE_cal C__law_draw ar (by omega) (wA_cons (wE_name 0 rfl (wA_cons (wE_int (wA_nil ?_))))))))
  refine ⟨m, l, 2, _, _, _, rfl, by decide, by decide, lw1, by omega, fun r2 μ2 b0 b1 lw2 ls2 => ?_⟩
  refine wE_int ?_
  refine wO_eqI ?_
  refine ⟨_, rfl, ?_⟩
  refine ⟨fun hk => ?_, fun hk => ?_⟩
  refine wSs_cons (wS_ret (wE_ix (wE_name 1 rfl (wE_bin (wE_bin (wE_int (wE_int ?_)))))))
  refine wO_sub ?_
  refine wE_cal C__law_draw ar (by omega) (wA_cons (wE_name 0 rfl (wA_cons (wE_callB (id := "min") TX.b_min (by decide +kernel) (wA_cons (wE_int (wA_cons (wE_callB (id := "len") TX.b_len (by decide +kernel) (wA_cons (wE_name 1 rfl (wA_nil ?_)))))))))))
  refine wC_len (.lst _) ?_
  rw [List.length_map]
  refine wA_nil ?_
  refine wC_min2 (by rfl) ?_
  generalize hmn : (if (T.length : Int) < 3 then (T.length : Int) else 3) = mn
  have m0 : 0 < mn := by rw [← hmn]; split <;> omega
  have m1 : mn ≤ T.length := by rw [← hmn]; split <;> omega
  refine wA_nil ?_
  refine ⟨m, l, mn, _, _, _, rfl, m0, by omega, lw2, by omega, fun r3 μ3 d0 d1 lw3 ls3 => ?_⟩
  refine wO_sub ?_
  obtain ⟨y, hy, ey⟩ := atI_back (xs := T.map D.A.str) (i := 0 - 1 - r3) (by omega) (by rw [List.length_map]; omega)
  obtain ⟨t1, t2⟩ := thOk_at hT hy
  refine wI_lst ey ?_
  exact q _ _ t1 t2 (lw3.up (by omega)) ((ls1.trans ls2).trans ls3)
  refine wSs_nil ?_
  refine wSs_cons (wS_ret (wE_ix (wE_name 1 rfl (wE_cal C__law_draw ar (by omega) (wA_cons (wE_name 0 rfl (wA_cons (wE_callB (id := "len") TX.b_len (by decide +kernel) (wA_cons (wE_name 1 rfl (wA_nil ?_)))))))))))
  refine wC_len (.lst _) ?_
  rw [List.length_map]
  refine wA_nil ?_
  refine ⟨m, l, _, _, _, _, rfl, by omega, by omega, lw2, by omega, fun r4 μ3 d0 d1 lw3 ls3 => ?_⟩
  obtain ⟨y, hy, ey⟩ := atI_ex (xs := T.map D.A.str) d0 (by rw [List.length_map]; omega)
  obtain ⟨t1, t2⟩ := thOk_at hT hy
  refine wI_lst ey ?_
  exact q _ _ t1 t2 (lw3.up (by omega)) ((ls1.trans ls2).trans ls3)

abbrev s__law_row : Stmt := topS 46
abbrev N__law_row : List Str := ["_law_m", "_law_told", "_law_parts", "_law_some", "_law_word", "_law_name", "_law_ins", "_law_one", "_law_many_here", "_law_k"]
theorem sc__law_row : FnScope N__law_row ["_law_m", "_law_told", "_law_parts"] (defScope s__law_row) := ⟨rfl, rfl, rfl, by decide +kernel, rfl, by decide +kernel, by decide +kernel⟩
def WORDS : List Str := ["plus", "less", "times", "over", "power", "most", "least", "size", "pick", "copy"]
def WKV : List (Key × D.A) := [(.inr "size", .int 1), (.inr "copy", .int 1), (.inr "pick", .int 3)]
theorem words_take {w : Str} (h : w ∈ WORDS) (hp : w ≠ "power") : ∃ k : Nat, (valA WKV (.inr w)).getD (.int 2) = .int k ∧ valI TAKENL w = some (k : Int) ∧ k ≤ 3 ∧ w ≠ "call" := by
  simp only [WORDS, List.mem_cons, List.not_mem_nil, or_false] at h
  rcases h with rfl | rfl | rfl | rfl | rfl | rfl | rfl | rfl | rfl | rfl
  · exact ⟨2, rfl, rfl, by decide, by decide⟩
  · exact ⟨2, rfl, rfl, by decide, by decide⟩
  · exact ⟨2, rfl, rfl, by decide, by decide⟩
  · exact ⟨2, rfl, rfl, by decide, by decide⟩
  · exact absurd rfl hp
  · exact ⟨2, rfl, rfl, by decide, by decide⟩
  · exact ⟨2, rfl, rfl, by decide, by decide⟩
  · exact ⟨1, rfl, rfl, by decide, by decide⟩
  · exact ⟨3, rfl, rfl, by decide, by decide⟩
  · exact ⟨1, rfl, rfl, by decide, by decide⟩
theorem words_shl {w : Str} (h : w ∈ WORDS) : shl (.str w) ≤ 200 := by
  have e : WORDS.all (fun w => decide (shl (.str w) ≤ 200)) = true := by decide +kernel
  exact of_decide_eq_true (List.all_eq_true.mp e w h)
theorem Ls.new {m l p : Addr} {μ μ' : Mu} {o : MO} (a : Ls m l μ μ') (np : μ' p = none) : Ls m l μ (μ'.upd p o) := fun q o2 h1 h2 h => by
  have h3 := a q o2 h1 h2 h
  rw [Mu.upd_ne (fun z => by rw [z, np] at h3; cases h3)]
  exact h3
theorem Lx.new {m l p : Addr} {c : Nat} {rm : Int} {mo : Option (List Str)} {μ : Mu} {o : MO} (h : Lx m l c rm mo μ) (np : μ p = none) : Lx m l c rm mo (μ.upd p o) := h.del (h.off np).1 (h.off np).2
structure PsOk (Pn : List (Str × Int)) (ps : List Pt) : Prop where
  dat : DatOk (.lst (ps.map Pt.a))
  all : ∀ q ∈ ps, isNm (.str q.nm) = true ∧ valI Pn q.nm = some (q.ins.length : Int) ∧ q.ins.length ≤ 4
  len : ps.length ≤ 6
def c__law_row : AC := fun xs μ Q _ => ∃ (m l pp : Addr) (c : Nat) (rm : Int) (mo : Option (List Str)) (T : List Str) (Pn : List (Str × Int)) (ps : List Pt), xs = [.loc m, .lst (T.map D.A.str), .loc pp] ∧ Lx m l c rm mo μ ∧ c < 2 ^ 37 ∧ T.length ≤ 1000 ∧ (∀ w ∈ T, isNm (.str w) = true) ∧ μ pp = some (.lst (ps.map Pt.a)) ∧ pp ≠ m ∧ pp ≠ l ∧ PsOk Pn ps ∧ ∀ (w : Str) (ts : List D.A) (μ' : Mu), RowOk Pn T w ts → RowSm w ts → Lx m l (c + 30) rm mo μ' → Ls m l μ μ' → Q (.tup [.str w, .tup ts]) μ'
theorem ok__law_row {n : Nat}  {f : Addr} {fd : FuncData} (TX : Txt K mg w CL CP CTL CTe CPr CPo CNV CTG CCo CS pT) (C__law_draw : Cal P w K mg base n "_law_draw" c__law_draw) (C__law_thing : Cal P w K mg base n "_law_thing" c__law_thing) (F : Fun K "_law_row" "_law_row" s__law_row f fd) : FnD P w K mg base CX0 (n + 1) f fd ["_law_m", "_law_told", "_law_parts"] c__law_row := by
  refine fnD F sc__law_row (fun xs μ Q E hc => by obtain ⟨m, l, pp, c, rm, mo, T, Pn, ps, rfl, lw, hc, hTl, hT, hpp, p1, p2, hps, q⟩ := hc; rfl) (fun cdv Ao outer s H E xs μ Q E0 ar hc => ?_)
  obtain ⟨m, l, pp, c, rm, mo, T, Pn, ps, rfl, lw, hc, hTl, hT, hpp, p1, p2, hps, q⟩ := hc
  have nd := sc__law_row.nd
  refine wSs_cons (wS_set 3 (wE_lstF (wA_cons (wE_str (wA_cons (wE_str (wA_cons (wE_str (wA_cons (wE_str (wA_cons (wE_str (wA_cons (wE_str (wA_cons (wE_str (wA_cons (wE_str (wA_cons (wE_str (wA_cons (wE_str (wA_cons (wE_str (wA_cons (wE_str (wA_nil ⟨by show 12 ≤ sizeLine; decide, (wSs_cons (wS_set 4 (wE_ix (wE_bin (wE_name 3 rfl (wE_lstF (wA_cons (wE_str (wA_nil ⟨by show 1 ≤ sizeLine; decide, ?_⟩))))))) nd))⟩)))))))))))))))))))))))))) nd)
  refine wO_catF (.lst _) (.lst _) (by decide) ?_
  refine wE_cal C__law_draw ar (by omega) (wA_cons (wE_name 0 rfl (wA_cons (wE_int (wA_nil ?_)))))
  refine ⟨m, l, 13, c, _, _, rfl, by decide, by decide, lw, by omega, fun r1 μ1 a0 a1 lw1 ls1 => ?_⟩
  obtain ⟨y1, hy1, ey1⟩ := atI_ex (xs := [D.A.str "plus", .str "less", .str "times", .str "plus", .str "less", .str "times", .str "over", .str "power", .str "most", .str "least", .str "size", .str "pick"] ++ [.str "copy"]) a0 (by simpa using a1)
  obtain ⟨wd, rfl, hwd⟩ : ∃ z : Str, y1 = .str z ∧ z ∈ WORDS := by
    simp only [List.cons_append, List.nil_append, List.mem_cons, List.not_mem_nil, or_false] at hy1
    rcases hy1 with rfl | rfl | rfl | rfl | rfl | rfl | rfl | rfl | rfl | rfl | rfl | rfl | rfl <;> exact ⟨_, rfl, by decide⟩
  have hpp1 := ls1 pp _ p1 p2 hpp
  refine wI_lst ey1 ?_
  refine wSs_cons (wS_if ?_)
  refine wT.imp (QB := fun k μ' => Lx m l (c + 2) rm mo μ' ∧ Ls m l μ μ' ∧ (k = true → ps ≠ [])) ?_ (fun k μ' hq => ?_)
  refine wT_chain (wW_and (wT_cmp (wE_name 2 rfl (wE_lstF (wA_nil ⟨by show 0 ≤ sizeLine; decide, ?_⟩)))))
  refine wO_neL ar.u64 (.loc hpp1) (.lst []) hps.dat datNil ?_
  rw [eqvNil]
  refine ⟨_, rfl, ?_⟩
  refine and_flip (fun hk => ?_) (fun hk => ?_)
  · exact ⟨lw1.up (by omega), ls1, fun z => nomatch z⟩
  have hne : ps ≠ [] := fun z => by subst z; simp at hk
  refine wW_and1 (wT_cmp (wE_cal C__law_draw ar (by omega) (wA_cons (wE_name 0 rfl (wA_cons (wE_int (wA_nil ?_)))))))
  refine ⟨m, l, 4, _, _, _, rfl, by decide, by decide, lw1, by omega, fun r2 μ2 b0 b1 lw2 ls2 => ?_⟩
  refine wE_int ?_
  refine wO_eqI ?_
  refine ⟨_, rfl, ?_⟩
  exact ⟨lw2, ls1.trans ls2, fun _ => hne⟩
  obtain ⟨lw2, ls2, hne⟩ := hq
  have hpp2 := ls2 pp _ p1 p2 hpp
  refine ⟨fun hk => ?_, fun hk => ?_⟩
  have hpos : 0 < ps.length := List.length_pos_iff.mpr (hne hk)
  have hl6 := hps.len
  refine wSs_cons (wS_asg (wE_slice (wE_ix (wE_name 2 rfl (wE_cal C__law_draw ar (by omega) (wA_cons (wE_name 0 rfl (wA_cons (wE_callB (id := "len") TX.b_len (by decide +kernel) (wA_cons (wE_name 2 rfl (wA_nil ?_))))))))))))
  refine wC_len (.loc hpp2) ?_
  rw [List.length_map]
  refine wA_nil ?_
  refine ⟨m, l, _, _, _, _, rfl, by omega, by omega, lw2, by omega, fun r3 μ3 d0 d1 lw3 ls3 => ?_⟩
  obtain ⟨y, hy, ey⟩ := atI_ex (xs := ps.map Pt.a) d0 (by rw [List.length_map]; omega)
  obtain ⟨pt, hpt, rfl⟩ := List.mem_map.mp hy
  obtain ⟨n1, n2, n3⟩ := hps.all pt hpt
  refine wI_loc (ls3 pp _ p1 p2 hpp2) ey ?_
  simp only [Pt.a]
  refine wE_int ⟨_, rfl, ?_⟩
  refine wSl_tup ?_
  rw [show cutA [D.A.str pt.nm, .tup (pt.ins.map D.A.str), .tup (aIts pt.body), .str pt.give] none (some 2) = [D.A.str pt.nm, .tup (pt.ins.map D.A.str)] from rfl]
  refine wG_tup (wGs_cons (wG_name 5 (wGs_cons (wG_name 6 (wGs_nil ?_) nd)) nd))
  refine wSs_cons (wS_ret (wE_tup (wA_cons (wE_str (wA_cons (wE_bin (wE_tup (wA_cons (wE_name 5 rfl (wA_nil ⟨by show 1 ≤ sizeLine; decide, (wE_callTy (T := "tuple") TX.b_tuple (by decide +kernel) (wA_cons (wE_lc [("_law_one", 7)] (wIt_tup (wE_name 6 rfl ⟨_, rfl, ?_⟩)) nd (blkOk_by (N := N__law_row) (sc := defScope s__law_row) (by decide +kernel)))))⟩))))))))))
  refine ⟨szOk (by rw [List.length_map]; omega), fun i acc μ' => acc.length = i ∧ (∀ a ∈ acc, ThOk T a ∧ ThSm a) ∧ Lx m l (c + 3 + 5 * i) rm mo μ' ∧ Ls m l μ μ', ⟨rfl, (fun _ h => nomatch h), lw3, ls2.trans ls3⟩, fun i y acc μ' hy hJ s0 H0 C cl fp => ?_, fun acc μ' hJ pl npl => ?_⟩
  obtain ⟨ha, hall, lwi, lsi⟩ := hJ
  have hi := (List.getElem?_eq_some_iff.mp hy).1
  rw [List.length_map] at hi
  refine wGw_name 7 (fun s0 H0 C cl fp => (wE_cal C__law_thing ar.bk (by omega) (wA_cons (wE_name 0 rfl (wA_cons (wE_name 1 rfl (wA_nil ?_))))))) nd
  refine ⟨m, l, _, _, _, T, rfl, lwi, by omega, hTl, hT, fun x μ4 x1 x2 lw4 ls4 => ?_⟩
  exact ⟨by rw [List.length_append, ha]; rfl, fun a h => by
    rcases List.mem_append.mp h with h | h
    · exact hall a h
    · rw [List.mem_singleton.mp h]; exact ⟨x1, x2⟩, lw4.up (by omega), lsi.trans ls4⟩
  obtain ⟨ha, hall, lwi, lsi⟩ := hJ
  rw [List.length_map] at ha lwi
  refine wA_nil ?_
  refine wC_tuple (.loc Mu.upd_same) ?_
  refine wO_catT (szOk (by simp only [List.length_singleton]; omega)) ?_
  refine wA_nil ⟨by show 2 ≤ sizeLine; decide, ?_⟩
  obtain ⟨m1, m2, _⟩ := isNm_let n1
  refine q "call" (.str pt.nm :: acc) _ (.inl ⟨rfl, pt.nm, acc, rfl, by rw [n2, ha], m1, m2, fun a h => (hall a h).1⟩) ⟨by rw [List.length_cons]; omega, fun a h => ?_, by decide +kernel⟩ ((lwi.up (by omega)).new npl) (lsi.new npl)
  rcases List.mem_cons.mp h with rfl | h
  · exact thSm_str m1 m2
  · exact (hall a h).2
  refine wSs_nil ?_
  refine wSs_cons (wS_if (wT_cmp (wE_name 4 rfl (wE_str ?_))))
  refine wO_eqS ?_
  refine ⟨_, rfl, ?_⟩
  refine ⟨fun hk => ?_, fun hk => ?_⟩
  refine wSs_cons (wS_ret (wE_tup (wA_cons (wE_name 4 rfl (wA_cons (wE_tup (wA_cons (wE_cal C__law_thing ar (by omega) (wA_cons (wE_name 0 rfl (wA_cons (wE_name 1 rfl (wA_nil ?_)))))))))))))
  refine ⟨m, l, _, _, _, T, rfl, lw2, by omega, hTl, hT, fun x μ4 x1 x2 lw4 ls4 => ?_⟩
  refine wA_cons (wE_ix (wE_lstF (wA_cons (wE_int (wA_cons (wE_int (wA_cons (wE_int (wA_cons (wE_int (wA_cons (wE_int (wA_cons (wE_neg (wE_int ⟨_, rfl, (wA_cons (wE_neg (wE_int ⟨_, rfl, (wA_cons (wE_int (wA_cons (wE_neg (wE_int ⟨_, rfl, (wA_nil ⟨by show 9 ≤ sizeLine; decide, (wE_cal C__law_draw ar (by omega) (wA_cons (wE_name 0 rfl (wA_cons (wE_int (wA_nil ?_))))))⟩)⟩)))))⟩)))⟩)))))))))))))))
  refine ⟨m, l, 9, _, _, _, rfl, by decide, by decide, lw4, by omega, fun r4 μ5 e0 e1 lw5 ls5 => ?_⟩
  obtain ⟨y3, hy3, ey3⟩ := atI_ex (xs := [D.A.int 2, .int 2, .int 3, .int 1, .int 0, .int (-1), .int (-2), .int 8, .int (-8)]) e0 (by simpa using e1)
  obtain ⟨k, rfl, k0, k1⟩ : ∃ z : Int, y3 = .int z ∧ -8 ≤ z ∧ z ≤ 8 := by
    simp only [List.mem_cons, List.not_mem_nil, or_false] at hy3
    rcases hy3 with rfl | rfl | rfl | rfl | rfl | rfl | rfl | rfl | rfl <;> exact ⟨_, rfl, by decide, by decide⟩
  refine wI_lst ey3 ?_
  refine wA_nil ⟨by show 2 ≤ sizeLine; decide, (wA_nil ⟨by show 2 ≤ sizeLine; decide, ?_⟩)⟩
  obtain rfl : wd = "power" := of_decide_eq_true hk
  refine q "power" [x, .int k] _ (.inr (.inl ⟨rfl, x, k, rfl, x1, k0, k1⟩)) ⟨by simp, fun a h => ?_, by decide +kernel⟩ (lw5.up (by omega)) ((ls2.trans ls4).trans ls5)
  simp only [List.mem_cons, List.not_mem_nil, or_false] at h
  rcases h with rfl | rfl
  · exact x2
  · exact thSm_int (by omega)
  have hpw : wd ≠ "power" := of_decide_eq_false hk
  obtain ⟨many, w1, w2, w3, w4⟩ := words_take hwd hpw
  refine wSs_nil ?_
  refine wSs_cons (wS_set 8 (wE_dget2 ar (wE_disp (wE_str (wE_int (wE_str (wE_int (wE_str (wE_int ?_)))))))) nd)
  refine ⟨WKV, rfl, by show 3 ≤ 15; decide, fun d ndl => ?_⟩
  rw [show mergeA [] WKV = WKV from rfl]
  refine ⟨d, _, rfl, Mu.upd_same, ?_⟩
  refine wE_name 4 rfl (wE_int ?_)
  refine ⟨_, .inr wd, Mu.upd_same, rfl, ?_⟩
  rw [w1]
  refine wSs_cons (wS_ret (wE_tup (wA_cons (wE_name 4 rfl (wA_cons (wE_callTy (T := "tuple") TX.b_tuple (by decide +kernel) (wA_cons (wE_lc [("_law_k", 9)] (wIt_range1 TX.b_range (wA_cons (wE_name 8 rfl (wA_nil ⟨_, rfl, by omega, by omega, ?_⟩)))) nd (blkOk_by (N := N__law_row) (sc := defScope s__law_row) (by decide +kernel))))))))))
  refine ⟨by rw [rgA_len]; exact szOk (by omega), fun i acc μ' => acc.length = i ∧ (∀ a ∈ acc, ThOk T a ∧ ThSm a) ∧ Lx m l (c + 2 + 5 * i) rm mo μ' ∧ Ls m l μ μ', ⟨rfl, (fun _ h => nomatch h), lw2.new ndl, ls2.new ndl⟩, fun i y acc μ' hy hJ s0 H0 C cl fp => ?_, fun acc μ' hJ pl npl => ?_⟩
  obtain ⟨ha, hall, lwi, lsi⟩ := hJ
  obtain ⟨hi, rfl⟩ := rgA_at hy
  refine wGw_name 9 (fun s0 H0 C cl fp => (wE_cal C__law_thing ar.bk (by omega) (wA_cons (wE_name 0 rfl (wA_cons (wE_name 1 rfl (wA_nil ?_))))))) nd
  refine ⟨m, l, _, _, _, T, rfl, lwi, by omega, hTl, hT, fun x μ4 x1 x2 lw4 ls4 => ?_⟩
  exact ⟨by rw [List.length_append, ha]; rfl, fun a h => by
    rcases List.mem_append.mp h with h | h
    · exact hall a h
    · rw [List.mem_singleton.mp h]; exact ⟨x1, x2⟩, lw4.up (by omega), lsi.trans ls4⟩
  obtain ⟨ha, hall, lwi, lsi⟩ := hJ
  rw [rgA_len] at ha lwi
  have ha2 : acc.length = many := by omega
  refine wA_nil ?_
  refine wC_tuple (.loc Mu.upd_same) ?_
  refine wA_nil ⟨by show 2 ≤ sizeLine; decide, ?_⟩
  exact q wd acc _ (.inr (.inr ⟨w4, hpw, by rw [w2, ha2], fun a h => (hall a h).1⟩)) ⟨by omega, fun a h => (hall a h).2, words_shl hwd⟩ ((lwi.up (by omega)).new npl) (lsi.new npl)

end
end D

namespace D
open PySem PySem.Spec PyProof.Rows L2
local macro_rules | `(tactic| walk_at "mul") => `(tactic| first | refine wO_mul (mulR (by first | decide | omega) (by first | decide | omega)) ?_ | refine wO_mul (mulL (by first | decide | omega) (by first | decide | omega)) ?_)
local macro_rules | `(tactic| walk_at "mod") => `(tactic| refine wO_mod (by first | decide | omega) ?_)
local macro_rules | `(tactic| walk_at "fdiv") => `(tactic| refine wO_fdiv (by first | decide | omega) (divS (by first | decide | omega)) ?_)
local macro_rules | `(tactic| walk_at "ix") => `(tactic| first | refine wI_tup (by rfl) ?_ | refine wI_lst (by rfl) ?_)
local macro_rules | `(tactic| walk_at "sl") => `(tactic| first | refine wSl_tup ?_ | refine wSl_lstF ?_)
local macro_rules | `(tactic| walk_at "obj") => `(tactic| refine ⟨_, _, _, rfl, by assumption, rfl, ?_⟩)
local macro_rules | `(tactic| walk_at "len") => `(tactic| first | refine wC_len (.tup _) ?_ | refine wC_len (.lst _) ?_ | refine wC_len (.loc (by assumption)) ?_)
section
variable {P : Program} {w : World} {mg : Str → Option Value} {base : Heap} {K : PySem.W.Frag} {CL CP CTL CTe CPr CPo CNV CTG CCo CS pT : Addr} {k : Nat}
abbrev s__law_body : Stmt := topS 47
abbrev N__law_body : List Str := ["_law_m", "_law_told", "_law_many_here", "_law_deep", "_law_parts", "_law_found", "_law_k", "_law_inner", "_law_word", "_law_things", "_law_name", "_law_one"]
theorem sc__law_body : FnScope N__law_body ["_law_m", "_law_told", "_law_many_here", "_law_deep", "_law_parts"] (defScope s__law_body) := ⟨rfl, rfl, rfl, by decide +kernel, rfl, by decide +kernel, by decide +kernel⟩
def KB (d : Nat) : Nat := 40 * 4 ^ (3 - d)
theorem KB_lo {d : Nat} : 40 ≤ KB d ∧ KB d ≤ 2560 := by
  have h : 4 ^ (3 - d) ≤ 4 ^ 3 := Nat.pow_le_pow_right (by decide) (by omega)
  have h2 : 1 ≤ 4 ^ (3 - d) := Nat.one_le_pow _ _ (by decide)
  unfold KB
  omega
theorem KB_up {d : Nat} (h : d < 3) : 3 + 3 * KB (d + 1) ≤ KB d := by
  have : d = 0 ∨ d = 1 ∨ d = 2 := by omega
  rcases this with rfl | rfl | rfl <;> decide
theorem Lx.room {m l : Addr} {c : Nat} {rm : Int} {mo : Option (List Str)} {μ : Mu} (h : Lx m l c rm mo μ) : ∃ fs at_, μ m = some (.dic (dicL fs l at_ rm mo)) ∧ ∀ rm2 mo2, Lx m l c rm2 mo2 (μ.upd m (.dic (dicL fs l at_ rm2 mo2))) := by
  obtain ⟨⟨fs, left, a, h1, h2, h3⟩, h7⟩ := h
  exact ⟨fs, a, h1, fun rm2 mo2 => ⟨⟨fs, left, a, Mu.upd_same, by rw [Mu.upd_ne h7]; exact h2, h3⟩, h7⟩⟩
theorem Same.trans {T T1 T2 : List Str} (a : Same T T1) (b : Same T1 T2) : Same T T2 := fun w => (a w).trans (b w)
structure BdS (m l p : Addr) (bn c : Nat) (ns : List Str) (Pn : List (Str × Int)) (d : Nat) (T : List Str) (rm : Int) (μ : Mu) (b : List It) (T' : List Str) (rm' : Int) (μ' : Mu) : Prop where
  cell : μ' p = some (.lst (aIts b))
  ok : okIts Pn d T b
  sm : smIts b
  nb : nbIts b ∧ b.length ≤ bn
  size : sizeIts b + rm'.toNat ≤ rm.toNat
  same : Same T' (toldIts b T)
  nm : ∀ w ∈ T', isNm (.str w) = true
  ne : T' ≠ []
  len : T'.length + rm'.toNat ≤ T.length + rm.toNat
  lx : Lx m l c rm' (some ns) μ'
  ls : Ls m l μ μ'
def c__law_body (lo : Nat) : AC := fun xs μ Q _ => ∃ (m l pp : Addr) (c : Nat) (rm : Int) (ns T : List Str) (Pn : List (Str × Int)) (ps : List Pt) (many d : Nat), xs = [.loc m, .lst (T.map D.A.str), .int many, .int d, .loc pp] ∧ Lx m l c rm (some ns) μ ∧ c + many * KB d < 2 ^ 30 ∧ T.length + rm.toNat ≤ 200 ∧ (∀ w ∈ T, isNm (.str w) = true) ∧ T ≠ [] ∧ (∀ w ∈ ns, isNm (.str w) = true) ∧ 1 ≤ ns.length ∧ ns.length ≤ 12 ∧ μ pp = some (.lst (ps.map Pt.a)) ∧ pp ≠ m ∧ pp ≠ l ∧ PsOk Pn ps ∧ many ≤ 14 ∧ lo ≤ d ∧ d ≤ 3 ∧
  ∀ (b : List It) (T' : List Str) (rm' : Int) (μ' : Mu), okIts Pn d T b → smIts b → nbIts b ∧ b.length ≤ many → sizeIts b + rm'.toNat ≤ rm.toNat → Same T' (toldIts b T) → (∀ w ∈ T', isNm (.str w) = true) → T' ≠ [] → T'.length + rm'.toNat ≤ T.length + rm.toNat → Lx m l (c + 1 + many * KB d) rm' (some ns) μ' → Ls m l μ μ' → Q (.tup [.tup (aIts b), .lst (T'.map D.A.str)]) μ'
theorem ok__law_body {n : Nat} {lo : Nat} {f : Addr} {fd : FuncData} (TX : Txt K mg w CL CP CTL CTe CPr CPo CNV CTG CCo CS pT) (C__law_draw : Cal P w K mg base n "_law_draw" c__law_draw) (C__law_body : Cal P w K mg base n "_law_body" (c__law_body (lo+1))) (C__law_row : Cal P w K mg base n "_law_row" c__law_row) (F : Fun K "_law_body" "_law_body" s__law_body f fd) : FnD P w K mg base CX0 (n + 1) f fd ["_law_m", "_law_told", "_law_many_here", "_law_deep", "_law_parts"] (c__law_body lo) := by
  refine fnD F sc__law_body (fun xs μ Q E hc => by obtain ⟨m, l, pp, c, rm, ns, T, Pn, ps, many, d, rfl, lw, hc, hTl, hT, hTn, hns, hn1, hn12, hpp, p1, p2, hps, hmany, hlo, hd, q⟩ := hc; rfl) (fun cdv Ao outer s H E xs μ Q E0 ar hc => ?_)
  obtain ⟨m, l, pp, c, rm, ns, T, Pn, ps, many, d, rfl, lw, hc, hTl, hT, hTn, hns, hn1, hn12, hpp, p1, p2, hps, hmany, hlo, hd, q⟩ := hc
  obtain ⟨kb1, kb2⟩ := KB_lo (d := d)
  have kbm : many * KB d ≤ 14 * 2560 := Nat.mul_le_mul hmany kb2
  have nd := sc__law_body.nd
  refine wSs_cons (wS_set 5 (wE_lst (wA_nil ⟨by show 0 ≤ sizeLine; decide, fun p__law_found np__law_found => (wSs_cons (wS_for (wIt_range1 TX.b_range (wA_cons (wE_cal C__law_draw ar (by omega) (wA_cons (wE_name 0 rfl (wA_cons (wE_bin (wE_name 2 rfl (wE_int ?_)))))))))))⟩)) nd)
  refine wO_add ?_
  refine wA_nil ?_
  have pm := (lw.off np__law_found).1
  have pl := (lw.off np__law_found).2
  refine ⟨m, l, _, c, _, _, rfl, by omega, by omega, lw.new np__law_found, by omega, fun r1 μ1 a0 a1 lw1 ls1 => ?_⟩
  have fd1 : μ1 p__law_found = some (.lst (aIts [])) := ls1 _ _ pm pl Mu.upd_same
  have ls01 : Ls m l μ μ1 := ((Ls.refl μ).new np__law_found).trans ls1
  refine wA_nil ⟨_, rfl, by omega, by omega, ?_⟩
  refine ⟨fun i Γ' μ' => ∃ (b : List It) (T' : List Str) (rm' : Int) (x6 x7 x8 x9 x10 x11 : Option D.A), Γ' = [some (.loc m), some (.lst (T'.map D.A.str)), some (.int many), some (.int d), some (.loc pp), some (.loc p__law_found), x6, x7, x8, x9, x10, x11] ∧ BdS m l p__law_found i (c + 1 + i * KB d) ns Pn d T rm μ b T' rm' μ', ⟨[], T, rm, _, _, _, _, _, _, rfl, fd1, trivial, trivial, ⟨trivial, Nat.zero_le _⟩, by simp [sizeIts], Same.refl _, hT, hTn, Nat.le_refl _, lw1.up (by omega), ls01⟩, fun i y Γ' μ' hy hI => ?_, fun Γ' μ' hI => ?_⟩
  obtain ⟨b, T', rm', x6, x7, x8, x9, x10, x11, rfl, S⟩ := hI
  obtain ⟨hi, rfl⟩ := rgA_at hy
  have hbl := len_size b
  have hsz := S.size
  have hlen := S.len
  have kbi : (i + 1) * KB d ≤ many * KB d := Nat.mul_le_mul_right _ (by omega)
  have kbs : (i + 1) * KB d = i * KB d + KB d := Nat.succ_mul ..
  obtain ⟨fs, at_, g1, g2⟩ := S.lx.room
  refine wG_name 6 ?_ nd
  refine wSs_cons (wS_dput ar (wE_bin (wE_dget ar (wE_name 0 rfl (wE_str ?_)))))
  refine ⟨_, _, .inr "room", _, rfl, g1, rfl, rfl, ?_⟩
  refine wE_int ?_
  refine wO_sub ?_
  refine wE_name 0 rfl (wE_str ?_)
  refine ⟨_, _, .inr "room", rfl, g1, rfl, szLt (by have := @dicL_len fs l at_ rm' (some ns); omega), ?_⟩
  rw [dicL_room]
  have lx1 := g2 (rm' - 1) (some ns)
  have ls2 : Ls m l μ' (μ'.upd m (.dic (dicL fs l at_ (rm' - 1) (some ns)))) := Ls.m
  generalize μ'.upd m (.dic (dicL fs l at_ (rm' - 1) (some ns))) = μ2 at lx1 ls2 ⊢
  have fd2 := ls2 _ _ pm pl S.cell
  have ls02 := S.ls.trans ls2
  have hpp2 := ls02 pp _ p1 p2 hpp
  obtain ⟨fs2, at2, k1, _⟩ := lx1.room
  refine wSs_cons (wS_if (wT_cmp (wE_dget ar (wE_name 0 rfl (wE_str ?_)))))
  refine ⟨_, _, .inr "room", _, rfl, k1, rfl, rfl, ?_⟩
  refine wE_int ?_
  refine wO_lt ?_
  refine ⟨_, rfl, ?_⟩
  refine ⟨fun hk => ?_, fun hk => ?_⟩
  refine wSs_cons (wS_ret (wE_tup (wA_cons (wE_callTy (T := "tuple") TX.b_tuple (by decide +kernel) (wA_cons (wE_name 5 rfl (wA_nil ?_)))))))
  refine wC_tuple (.loc fd2) ?_
  refine wA_cons (wE_name 1 rfl (wA_nil ⟨by show 2 ≤ sizeLine; decide, ?_⟩))
  exact q b T' (rm' - 1) _ S.ok S.sm ⟨S.nb.1, by have := S.nb.2; omega⟩ (by omega) S.same S.nm S.ne (by omega) (lx1.up (by omega)) ls02
  refine wSs_nil ?_
  have hr0 : ¬ rm' - 1 < 0 := of_decide_eq_false hk
  refine wSs_cut (fun Γ' μ' => ∃ (b : List It) (T' : List Str) (rm' : Int) (x6 x7 x8 x9 x10 x11 : Option D.A), Γ' = [some (.loc m), some (.lst (T'.map D.A.str)), some (.int many), some (.int d), some (.loc pp), some (.loc p__law_found), x6, x7, x8, x9, x10, x11] ∧ BdS m l p__law_found (i + 1) (c + 1 + (i + 1) * KB d) ns Pn d T rm μ b T' rm' μ') ?_ (fun Γ' μ' hP => ?_)
  refine wS_if ?_
  refine wT.imp (QB := fun k μ' => Lx m l (c + 1 + i * KB d + 1) (rm' - 1) (some ns) μ' ∧ Ls m l μ2 μ' ∧ (k = true → d < 3)) ?_ (fun k μ' hq => ?_)
  refine wT_chain (wW_and (wT_cmp (wE_name 3 rfl (wE_int ?_))))
  refine wO_lt ?_
  refine ⟨_, rfl, ?_⟩
  refine and_flip (fun hk => ?_) (fun hk => ?_)
  · exact ⟨lx1.up (by omega), Ls.refl _, fun z => nomatch z⟩
  have hd3 : d < 3 := by have h3 : (d : Int) < 3 := of_decide_eq_true hk
                         omega
  refine wW_and1 (wT_cmp (wE_cal C__law_draw ar (by omega) (wA_cons (wE_name 0 rfl (wA_cons (wE_int (wA_nil ?_)))))))
  refine ⟨m, l, 7, _, _, _, rfl, by decide, by decide, lx1, by omega, fun r2 μ3 b0 b1 lw2 ls3 => ?_⟩
  refine wE_int ?_
  refine wO_eqI ?_
  refine ⟨_, rfl, ?_⟩
  exact ⟨lw2, ls3, fun _ => hd3⟩
  obtain ⟨lx3, ls3, hd3⟩ := hq
  have hpp3 := ls3 pp _ p1 p2 hpp2
  have fd3 := ls3 _ _ pm pl fd2
  have ls03 := ls02.trans ls3
  refine ⟨fun hk => ?_, fun hk => ?_⟩
  have hd4 := hd3 hk
  have kbu := KB_up hd4
  refine wSs_cons (wS_asg (wE_cal C__law_body ar (by omega) (wA_cons (wE_name 0 rfl (wA_cons (wE_name 1 rfl (wA_cons (wE_int (wA_cons (wE_bin (wE_name 3 rfl (wE_int ?_))))))))))))
  refine wO_add ?_
  refine wA_cons (wE_name 4 rfl (wA_nil ?_))
  refine ⟨m, l, pp, _, rm' - 1, ns, T', Pn, ps, 3, d + 1, rfl, lx3, by omega, by omega, S.nm, S.ne, hns, hn1, hn12, hpp3, p1, p2, hps, by decide, by omega, by omega, fun b2 T2 rm3 μ4 ok2 sm2 nb2 sz2 same2 nm2 ne2 len2 lx4 ls4 => ?_⟩
  have fd4 := ls4 _ _ pm pl fd3
  refine wG_tup (wGs_cons (wG_name 7 (wGs_cons (wG_name 1 (wGs_nil ?_) nd)) nd))
  refine wSs_cons (wS_expr (wE_append (wE_name 5 rfl ?_)))
  refine ⟨_, _, rfl, fd4, ?_⟩
  refine wE_tup (wA_cons (wE_str (wA_cons (wE_ix (wE_lstF (wA_cons (wE_int (wA_cons (wE_int (wA_cons (wE_int (wA_cons (wE_int (wA_nil ⟨by show 4 ≤ sizeLine; decide, (wE_cal C__law_draw ar (by omega) (wA_cons (wE_name 0 rfl (wA_cons (wE_int (wA_nil ?_))))))⟩))))))))))))))
  refine ⟨m, l, 4, _, _, _, rfl, by decide, by decide, lx4, by omega, fun r3 μ5 d0 d1 lx5 ls5 => ?_⟩
  have fd5 := ls5 _ _ pm pl fd4
  obtain ⟨y1, hy1, ey1⟩ := atI_ex (xs := [D.A.int 1, .int 2, .int 3, .int 5]) d0 (by simpa using d1)
  obtain ⟨k, rfl, k0, k1⟩ : ∃ z : Int, y1 = .int z ∧ 1 ≤ z ∧ z ≤ 5 := by
    simp only [List.mem_cons, List.not_mem_nil, or_false] at hy1
    rcases hy1 with rfl | rfl | rfl | rfl <;> exact ⟨_, rfl, by decide, by decide⟩
  refine wI_lst ey1 ?_
  refine wA_cons (wE_name 7 rfl (wA_nil ⟨by show 3 ≤ sizeLine; decide, ?_⟩))
  refine ⟨_, fd5, szLt (by rw [aIts_len]; omega), ?_⟩
  refine wSs_nil ?_
  have hsm : It.sm (.rep k b2) := by simp only [It.sm]; exact ⟨by omega, k1, sm2⟩
  have hok : It.ok Pn d (toldIts b T) (.rep k b2) := by simp only [It.ok]; exact ⟨hd3 hk, k0, by omega, okIts_same ok2 S.same⟩
  have hz := size_snoc (.rep k b2) b
  simp only [It.size] at hz
  refine ⟨b ++ [.rep k b2], T2, rm3, _, _, _, _, _, _, rfl, by rw [aIts_snoc]; exact Mu.upd_same, ok_snoc S.ok hok, sm_snoc hsm S.sm, ⟨nb_snoc (by simp only [nbI]; exact ⟨by have := nb2.2; omega, nb2.1⟩) S.nb.1, by rw [List.length_append, List.length_singleton]; have := S.nb.2; omega⟩, by omega, ?_, nm2, ne2, by omega, ?_, ?_⟩
  · rw [told_snoc]; simp only [It.told]; exact same2.trans (tolds_same b2 S.same)
  · exact (lx5.up (by omega)).del pm pl
  · intro z o z1 z2 hz3
    have hz4 := ((ls03.trans ls4).trans ls5) z o z1 z2 hz3
    rw [Mu.upd_ne (fun e => by rw [e, np__law_found] at hz3; cases hz3)]
    exact hz4
  refine wSs_cons (wS_asg (wE_cal C__law_row ar (by omega) (wA_cons (wE_name 0 rfl (wA_cons (wE_name 1 rfl (wA_cons (wE_name 4 rfl (wA_nil ?_)))))))))
  refine ⟨m, l, pp, _, _, _, T', Pn, ps, rfl, lx3, by omega, by omega, S.nm, hpp3, p1, p2, hps, fun w ts μ4 hro hrs lx4 ls4 => ?_⟩
  have fd4 := ls4 _ _ pm pl fd3
  obtain ⟨fs4, at4, k4, _⟩ := lx4.room
  refine wG_tup (wGs_cons (wG_name 8 (wGs_cons (wG_name 9 (wGs_nil ?_) nd)) nd))
  refine wSs_cons (wS_set 10 (wE_ix (wE_dget ar (wE_name 0 rfl (wE_str ?_)))) nd)
  refine ⟨_, _, .inr "names", _, rfl, k4, rfl, rfl, ?_⟩
  refine wE_cal C__law_draw ar (by omega) (wA_cons (wE_name 0 rfl (wA_cons (wE_callB (id := "len") TX.b_len (by decide +kernel) (wA_cons (wE_dget ar (wE_name 0 rfl (wE_str ?_))))))))
  refine ⟨_, _, .inr "names", _, rfl, k4, rfl, rfl, ?_⟩
  refine wA_nil ?_
  refine wC_len (.lst _) ?_
  rw [List.length_map]
  refine wA_nil ?_
  refine ⟨m, l, _, _, _, _, rfl, by omega, by omega, lx4, by omega, fun r4 μ5 d0 d1 lx5 ls5 => ?_⟩
  have fd5 := ls5 _ _ pm pl fd4
  obtain ⟨y1, hy1, ey1⟩ := atI_ex (xs := ns.map D.A.str) d0 (by rw [List.length_map]; omega)
  obtain ⟨x, hx, rfl⟩ := List.mem_map.mp hy1
  have hxn := hns x hx
  refine wI_lst ey1 ?_
  refine wSs_cons (wS_expr (wE_append (wE_name 5 rfl ?_)))
  refine ⟨_, _, rfl, fd5, ?_⟩
  refine wE_tup (wA_cons (wE_str (wA_cons (wE_name 10 rfl (wA_cons (wE_name 8 rfl (wA_cons (wE_name 9 rfl (wA_nil ⟨by show 4 ≤ sizeLine; decide, ?_⟩)))))))))
  refine ⟨_, fd5, szLt (by rw [aIts_len]; omega), ?_⟩
  refine wSs_cons (wS_set 1 (wE_bin (wE_lcPF (own := [("_law_one", 11)]) (wIt_list (wE_name 1 rfl ⟨_, rfl, ?_⟩)) nd (blkOk_by (N := N__law_body) (sc := defScope s__law_body) (by decide +kernel)))) nd)
  refine ⟨szOk (by rw [List.length_map]; omega), T'.map (fun v => decide (v ≠ x)), T'.map D.A.str, by simp, by simp, fun j y k z hy hkk hz s0 H0 C cl fp => ?_, ?_⟩
  obtain ⟨v, hv, rfl⟩ := map_at hy
  obtain ⟨v2, hv2, rfl⟩ := map_at hz
  obtain rfl : v = v2 := Option.some.inj (hv.symm.trans hv2)
  obtain ⟨v3, hv3, e3⟩ : ∃ v3, T'[j]? = some v3 ∧ k = decide (v3 ≠ x) := by
    rw [List.getElem?_map] at hkk
    cases e : T'[j]? with
    | none => rw [e] at hkk; cases hkk
    | some v3 => rw [e] at hkk; exact ⟨v3, rfl, (Option.some.inj hkk).symm⟩
  obtain rfl : v = v3 := Option.some.inj (hv.symm.trans hv3)
  subst e3
  refine wGw_name 11 (⟨rfl, ?_⟩) nd
  refine ⟨fun s0 H0 C cl fp => ?_, fun kt s0 H0 C cl fp => ?_⟩
  refine wT_cmp (wE_name 11 rfl (wE_name 10 rfl ?_))
  refine wO_neS ?_
  rw [show (!decide (v = x)) = decide (v ≠ x) by simp]
  refine ⟨_, rfl, ?_⟩
  exact ⟨rfl, .refl _⟩
  refine wE_name 11 rfl ?_
  refine ⟨?_, .refl _⟩
  rfl
  rw [pickA_map]
  refine wE_lstF (wA_cons (wE_name 10 rfl (wA_nil ⟨by show 1 ≤ sizeLine; decide, ?_⟩)))
  refine wO_catF (.lst _) (.lst _) (szOk (by rw [List.length_map]; have := List.length_filter_le (fun v => decide (v ≠ x)) T'; simp only [List.length_singleton]; omega)) ?_
  refine wSs_nil ?_
  obtain ⟨m1, m2, _⟩ := isNm_let hxn
  have hsm : It.sm (.row x w ts) := by simp only [It.sm]; exact ⟨shl_let m1 m2, hrs⟩
  have hok : It.ok Pn d (toldIts b T) (.row x w ts) := by simp only [It.ok]; exact ⟨hd, hxn, hro.same S.same⟩
  have hz := size_snoc (.row x w ts) b
  simp only [It.size] at hz
  have hpl := putT_len T' x
  refine ⟨b ++ [.row x w ts], putT T' x, rm' - 1, _, _, _, _, _, _, by unfold putT; rw [List.map_append]; rfl, by rw [aIts_snoc]; exact Mu.upd_same, ok_snoc S.ok hok, sm_snoc hsm S.sm, ⟨nb_snoc (by simp only [nbI]) S.nb.1, by rw [List.length_append, List.length_singleton]; have := S.nb.2; omega⟩, by omega, ?_, putT_all S.nm hxn, putT_ne _ _, by omega, ?_, ?_⟩
  · rw [told_snoc]; simp only [It.told]
    exact (putT_same T' x).trans (told_same (.row x w ts) S.same)
  · exact (lx5.up (by omega)).del pm pl
  · intro z o z1 z2 hz3
    have hz4 := ((ls03.trans ls4).trans ls5) z o z1 z2 hz3
    rw [Mu.upd_ne (fun e => by rw [e, np__law_found] at hz3; cases hz3)]
    exact hz4
  refine wSs_nil ?_
  exact hP
  obtain ⟨b, T', rm', x6, x7, x8, x9, x10, x11, rfl, S⟩ := hI
  have hr : ((r1.toNat : Nat)) ≤ many := by omega
  refine wSs_cons (wS_ret (wE_tup (wA_cons (wE_callTy (T := "tuple") TX.b_tuple (by decide +kernel) (wA_cons (wE_name 5 rfl (wA_nil ?_)))))))
  refine wC_tuple (.loc S.cell) ?_
  refine wA_cons (wE_name 1 rfl (wA_nil ⟨by show 2 ≤ sizeLine; decide, ?_⟩))
  refine q b T' rm' _ S.ok S.sm ⟨S.nb.1, by have h9 := S.nb.2; rw [rgA_len] at h9; omega⟩ S.size S.same S.nm S.ne S.len (S.lx.up ?_) S.ls
  have kbr : r1.toNat * KB d ≤ many * KB d := Nat.mul_le_mul_right _ hr
  rw [rgA_len]
  omega

end
end D

namespace D
open PySem PySem.Spec PyProof.Rows L2
local macro_rules | `(tactic| walk_at "mul") => `(tactic| first | refine wO_mul (mulR (by first | decide | omega) (by first | decide | omega)) ?_ | refine wO_mul (mulL (by first | decide | omega) (by first | decide | omega)) ?_)
local macro_rules | `(tactic| walk_at "mod") => `(tactic| refine wO_mod (by first | decide | omega) ?_)
local macro_rules | `(tactic| walk_at "fdiv") => `(tactic| refine wO_fdiv (by first | decide | omega) (divS (by first | decide | omega)) ?_)
local macro_rules | `(tactic| walk_at "ix") => `(tactic| first | refine wI_tup (by rfl) ?_ | refine wI_lst (by rfl) ?_)
local macro_rules | `(tactic| walk_at "sl") => `(tactic| first | refine wSl_tup ?_ | refine wSl_lstF ?_)
local macro_rules | `(tactic| walk_at "obj") => `(tactic| refine ⟨_, _, _, rfl, by assumption, rfl, ?_⟩)
local macro_rules | `(tactic| walk_at "len") => `(tactic| first | refine wC_len (.tup _) ?_ | refine wC_len (.lst _) ?_ | refine wC_len (.loc (by assumption)) ?_)
section
variable {P : Program} {w : World} {mg : Str → Option Value} {base : Heap} {K : PySem.W.Frag} {CL CP CTL CTe CPr CPo CNV CTG CCo CS pT : Addr} {k : Nat}
abbrev s__law_program : Stmt := topS 48
abbrev N__law_program : List Str := ["_law_m", "_law_many_here", "_law_parts", "_law_k", "_law_ins", "_law_body_here", "_law_told", "_law_give", "_law_at", "_law_outs"]
theorem sc__law_program : FnScope N__law_program ["_law_m", "_law_many_here"] (defScope s__law_program) := ⟨rfl, rfl, rfl, by decide +kernel, rfl, by decide +kernel, by decide +kernel⟩
theorem valI_old {Pn : List (Str × Int)} {x w : Str} {v i : Int} (h : valI Pn x = some v) : valI (Pn ++ [(w, i)]) x = some v := by
  unfold valI at h ⊢
  rw [List.find?_append]
  cases e : Pn.find? (fun kv => decide (kv.1 = x)) with
  | none => rw [e] at h; cases h
  | some p => rw [e] at h; exact h
theorem valI_new {Pn : List (Str × Int)} {w : Str} {i : Int} (h : valI Pn w = none) : valI (Pn ++ [(w, i)]) w = some i := by
  unfold valI at h ⊢
  rw [List.find?_append]
  cases e : Pn.find? (fun kv => decide (kv.1 = w)) with
  | none => simp
  | some p => rw [e] at h; cases h
theorem valI_out {Pn : List (Str × Int)} {w : Str} (h : ∀ p ∈ Pn, p.1 ≠ w) : valI Pn w = none := by
  unfold valI
  rw [Option.map_eq_none_iff, List.find?_eq_none]
  exact fun p hp e => h p hp (of_decide_eq_true e)
theorem okPts_snoc {q : Pt} : ∀ {l : List Pt} {Pn : List (Str × Int)}, okPts Pn l → q.ok (Pn ++ pnPts l) → okPts Pn (l ++ [q])
  | [], Pn, _, h => by simp only [List.nil_append, okPts]; exact ⟨by simpa using h, trivial⟩
  | x :: l, Pn, h, hq => by
    simp only [okPts] at h
    simp only [List.cons_append, okPts]
    exact ⟨h.1, okPts_snoc h.2 (by simpa using hq)⟩
theorem Pt.dat {q : Pt} {Pn : List (Str × Int)} (h : q.ok Pn) (s : q.sm) : isD q.a = true ∧ deep q.a ≤ 13 := by
  obtain ⟨h1, h2⟩ := datIts h.body
  have h3 := datStrs h.ins
  have h4 := h3.1
  simp only [isD] at h4
  have h5 : deeps (q.ins.map D.A.str) ≤ 0 := deeps_le fun a ha => by
    obtain ⟨w, _, rfl⟩ := List.mem_map.mp ha
    simp [deep]
  refine ⟨?_, ?_⟩
  · simp only [Pt.a, isD, isDs, h1, h4, strOk_let (isNm_let h.nm).1, strOk_let (isNm_let s.give).1, Bool.and_self]
  · simp only [Pt.a, deep, deeps]; omega
theorem cut_nms {ns : List Str} {a b : Int} (h0 : 0 ≤ a) (h1 : a ≤ b) (h2 : b ≤ ns.length) : cutA (ns.map D.A.str) (some a) (some b) = ((ns.drop a.toNat).take (b.toNat - a.toNat)).map D.A.str := by
  unfold cutA HT.sIx
  simp only [show ¬ (a < 0) by omega, show ¬ (b < 0) by omega, if_false]
  rw [List.length_map, Nat.min_eq_left (by omega), Nat.min_eq_left (by omega), ← List.map_drop, ← List.map_take]
theorem slice_nms {ns : List Str} {a k : Nat} (hn : ns.Nodup) (hns : ∀ w ∈ ns, isNm (.str w) = true) (h : a + k ≤ ns.length) : ((ns.drop a).take k).length = k ∧ (∀ w ∈ (ns.drop a).take k, isNm (.str w) = true) ∧ ((ns.drop a).take k).Nodup :=
  ⟨by rw [List.length_take, List.length_drop]; omega, fun w hw => hns w (List.drop_subset _ _ (List.take_subset _ _ hw)), hn.sublist ((List.take_sublist _ _).trans (List.drop_sublist _ _))⟩
theorem deeps_get : ∀ {l : List D.A} {a : D.A}, a ∈ l → deep a ≤ deeps l
  | x :: l, a, h => by
    simp only [deeps]
    rcases List.mem_cons.mp h with rfl | h
    · omega
    · have := deeps_get h
      omega
structure PaS (m l p : Addr) (c i : Nat) (ns : List Str) (μ : Mu) (ps : List Pt) (rm : Int) (μ' : Mu) : Prop where
  cell : μ' p = some (.lst (ps.map Pt.a))
  len : ps.length = i
  ok : okPts [] ps
  pso : PsOk (pnPts ps) ps
  sm : ∀ q ∈ ps, q.sm
  nb : ∀ q ∈ ps, nbIts q.body ∧ q.body.length ≤ 6
  nms : ∀ q ∈ ps, ∃ j, j < i ∧ ns[ns.length - 1 - j]? = some q.nm
  size : sizePts ps + rm.toNat ≤ 58 + 6 * i
  lx : Lx m l c rm (some ns) μ'
  ls : Ls m l μ μ'
def c__law_program : AC := fun xs μ Q _ => ∃ (m l : Addr) (c : Nat) (rm : Int) (mo : Option (List Str)) (many : Nat), xs = [.loc m, .int many] ∧ Lx m l c rm mo μ ∧ c < 2 ^ 29 ∧ many ≤ 14 ∧ ∀ (g : Pg) (rm' : Int) (ns : List Str) (μ' : Mu), g.ok → g.sm → nbPg g → (∀ w ∈ g.ins, w ∉ ZZL) → Lx m l (c + 50000) rm' (some ns) μ' → Ls m l μ μ' → Q g.a μ'
theorem ok__law_program {n : Nat}  {f : Addr} {fd : FuncData} (TX : Txt K mg w CL CP CTL CTe CPr CPo CNV CTG CCo CS pT) (C__law_names : Cal P w K mg base n "_law_names" c__law_names) (C__law_draw : Cal P w K mg base n "_law_draw" c__law_draw) (C__law_body : Cal P w K mg base n "_law_body" (c__law_body 0)) (F : Fun K "_law_program" "_law_program" s__law_program f fd) : FnD P w K mg base CX0 (n + 1) f fd ["_law_m", "_law_many_here"] c__law_program := by
  refine fnD F sc__law_program (fun xs μ Q E hc => by obtain ⟨m, l, c, rm, mo, many, rfl, lw, hc, hmany, q⟩ := hc; rfl) (fun cdv Ao outer s H E xs μ Q E0 ar hc => ?_)
  obtain ⟨m, l, c, rm, mo, many, rfl, lw, hc, hmany, q⟩ := hc
  have nd := sc__law_program.nd
  refine wSs_cons (wS_dput ar (wE_cal C__law_names ar (by omega) (wA_cons (wE_name 0 rfl (wA_cons (wE_bin (wE_int (wE_cal C__law_draw ar (by omega) (wA_cons (wE_name 0 rfl (wA_cons (wE_int (wA_nil ?_)))))))))))))
  refine ⟨m, l, 5, c, _, _, rfl, by decide, by decide, lw, by omega, fun r1 μ1 a0 a1 lw1 ls1 => ?_⟩
  refine wO_add ?_
  refine wA_nil ?_
  refine ⟨m, l, _, (8 + r1).toNat, _, _, by rw [Int.toNat_of_nonneg (by omega)], by omega, lw1, by omega, fun ns μ2 hnl hns0 hnd lw2 ls2 => ?_⟩
  have hns : ∀ w ∈ ns, isNm (.str w) = true := fun w hw => (hns0 w hw).1
  obtain ⟨fs, at_, g1, g2⟩ := lw2.room
  refine wE_name 0 rfl (wE_str ?_)
  refine ⟨_, _, .inr "names", rfl, g1, rfl, szLt (by have := @dicL_len fs l at_ rm mo; omega), ?_⟩
  rw [dicL_names]
  have lx3 := g2 rm (some ns)
  have ls3 : Ls m l μ2 (μ2.upd m (.dic (dicL fs l at_ rm (some ns)))) := Ls.m
  generalize μ2.upd m (.dic (dicL fs l at_ rm (some ns))) = μ3 at lx3 ls3 ⊢
  obtain ⟨fs3, at3, k1, k2⟩ := lx3.room
  refine wSs_cons (wS_dput ar (wE_int (wE_name 0 rfl (wE_str ?_))))
  refine ⟨_, _, .inr "room", rfl, k1, rfl, szLt (by have := @dicL_len fs3 l at3 rm (some ns); omega), ?_⟩
  rw [dicL_room]
  have lx4 := k2 58 (some ns)
  have ls4 : Ls m l μ3 (μ3.upd m (.dic (dicL fs3 l at3 58 (some ns)))) := Ls.m
  generalize μ3.upd m (.dic (dicL fs3 l at3 58 (some ns))) = μ4 at lx4 ls4 ⊢
  have ls04 := ((ls1.trans ls2).trans ls3).trans ls4
  refine wSs_cons (wS_set 2 (wE_lst (wA_nil ⟨by show 0 ≤ sizeLine; decide, fun p__law_parts np__law_parts => (wSs_cons (wS_for (wIt_range1 TX.b_range (wA_cons (wE_ix (wE_lstF (wA_cons (wE_int (wA_cons (wE_int (wA_cons (wE_int (wA_cons (wE_int (wA_nil ⟨by show 4 ≤ sizeLine; decide, (wE_cal C__law_draw ar (by omega) (wA_cons (wE_name 0 rfl (wA_cons (wE_int (wA_nil ?_))))))⟩)))))))))))))))⟩)) nd)
  have pm := (lx4.off np__law_parts).1
  have pl := (lx4.off np__law_parts).2
  refine ⟨m, l, 4, _, _, _, rfl, by decide, by decide, lx4.new np__law_parts, by omega, fun r2 μ5 b0 b1 lx5 ls5 => ?_⟩
  have fd5 : μ5 p__law_parts = some (.lst (([] : List Pt).map Pt.a)) := ls5 _ _ pm pl Mu.upd_same
  have ls05 : Ls m l μ μ5 := (ls04.new np__law_parts).trans ls5
  obtain ⟨y1, hy1, ey1⟩ := atI_ex (xs := [D.A.int 0, .int 0, .int 1, .int 2]) b0 (by simpa using b1)
  obtain ⟨np, rfl, n0, n1⟩ : ∃ z : Int, y1 = .int z ∧ 0 ≤ z ∧ z ≤ 2 := by
    simp only [List.mem_cons, List.not_mem_nil, or_false] at hy1
    rcases hy1 with rfl | rfl | rfl | rfl <;> exact ⟨_, rfl, by decide, by decide⟩
  refine wI_lst ey1 ?_
  refine wA_nil ⟨_, rfl, by omega, by omega, ?_⟩
  refine ⟨fun i Γ' μ' => ∃ (ps : List Pt) (rm' : Int) (x3 x4 x5 x6 x7 : Option D.A), Γ' = [some (.loc m), some (.int many), some (.loc p__law_parts), x3, x4, x5, x6, x7, none, none] ∧ PaS m l p__law_parts (c + 20 + i * 2600) i ns μ ps rm' μ', ⟨[], 58, _, _, _, _, _, rfl, fd5, rfl, trivial, ⟨datNil, (fun _ h => nomatch h), Nat.zero_le _⟩, (fun _ h => nomatch h), (fun _ h => nomatch h), (fun _ h => nomatch h), by simp [sizePts], lx5.up (by omega), ls05⟩, fun i y Γ' μ' hy hI => ?_, fun Γ' μ' hI => ?_⟩
  obtain ⟨ps, rm', x3, x4, x5, x6, x7, rfl, S⟩ := hI
  obtain ⟨hi, rfl⟩ := rgA_at hy
  have hi2 : i < 2 := by omega
  obtain ⟨fs6, at6, g6, _⟩ := S.lx.room
  have hsz := S.size
  have hlen := S.len
  refine wG_name 3 ?_ nd
  refine wSs_cons (wS_set 4 (wE_slice (wE_dget ar (wE_name 0 rfl (wE_str ?_)))) nd)
  refine ⟨_, _, .inr "names", _, rfl, g6, rfl, rfl, ?_⟩
  refine wE_name 3 rfl ⟨_, rfl, (wE_bin (wE_bin (wE_name 3 rfl (wE_int ?_))))⟩
  refine wO_add ?_
  refine wE_cal C__law_draw ar (by omega) (wA_cons (wE_name 0 rfl (wA_cons (wE_int (wA_nil ?_)))))
  refine ⟨m, l, 4, _, _, _, rfl, by decide, by decide, S.lx, by omega, fun r3 μ6 d0 d1 lx6 ls6 => ?_⟩
  have fd6 := ls6 _ _ pm pl S.cell
  refine wO_add ?_
  refine ⟨_, rfl, ?_⟩
  refine wSl_lstF ?_
  rw [cut_nms (by omega) (by omega) (by omega)]
  obtain ⟨i1, i2, i3⟩ := slice_nms (a := (0 + (i : Int)).toNat) (k := (0 + (i : Int) + 1 + r3).toNat - (0 + (i : Int)).toNat) hnd hns (by omega)
  generalize (ns.drop (0 + (i : Int)).toNat).take ((0 + (i : Int) + 1 + r3).toNat - (0 + (i : Int)).toNat) = ins at i1 i2 i3 ⊢
  have j1 : 1 ≤ ins.length := by omega
  have j4 : ins.length ≤ 4 := by omega
  refine wSs_cons (wS_asg (wE_cal C__law_body ar (by omega) (wA_cons (wE_name 0 rfl (wA_cons (wE_callTy (T := "list") TX.b_list (by decide +kernel) (wA_cons (wE_name 4 rfl (wA_nil ?_)))))))))
  refine wC_listF (.lst _) ?_
  refine wA_cons (wE_int (wA_cons (wE_int (wA_cons (wE_name 2 rfl (wA_nil ?_))))))
  have kb : 4 * KB 1 = 2560 := by decide
  refine ⟨m, l, p__law_parts, _, rm', ns, ins, pnPts ps, ps, 4, 1, rfl, lx6, by omega, by omega, i2, (fun z => by rw [z] at j1; simp at j1), hns, by omega, by omega, fd6, pm, pl, S.pso, by decide, by omega, by decide, fun b T' rm2 μ7 ob sb nb zb same nm ne len lx7 ls7 => ?_⟩
  have fd7 := ls7 _ _ pm pl fd6
  have hpos : 0 < T'.length := List.length_pos_iff.mpr ne
  refine wG_tup (wGs_cons (wG_name 5 (wGs_cons (wG_name 6 (wGs_nil ?_) nd)) nd))
  refine wSs_cons (wS_set 7 (wE_ix (wE_name 6 rfl (wE_cal C__law_draw ar (by omega) (wA_cons (wE_name 0 rfl (wA_cons (wE_callB (id := "len") TX.b_len (by decide +kernel) (wA_cons (wE_name 6 rfl (wA_nil ?_)))))))))) nd)
  refine wC_len (.lst _) ?_
  rw [List.length_map]
  refine wA_nil ?_
  refine ⟨m, l, _, _, _, _, rfl, by omega, by omega, lx7, by omega, fun r4 μ8 e0 e1 lx8 ls8 => ?_⟩
  have fd8 := ls8 _ _ pm pl fd7
  obtain ⟨fs8, at8, g8, _⟩ := lx8.room
  obtain ⟨y2, hy2, ey2⟩ := atI_ex (xs := T'.map D.A.str) e0 (by rw [List.length_map]; omega)
  obtain ⟨give, hgive, rfl⟩ := List.mem_map.mp hy2
  refine wI_lst ey2 ?_
  refine wSs_cons (wS_expr (wE_append (wE_name 2 rfl ?_)))
  refine ⟨_, _, rfl, fd8, ?_⟩
  refine wE_tup (wA_cons (wE_ix (wE_dget ar (wE_name 0 rfl (wE_str ?_)))))
  refine ⟨_, _, .inr "names", _, rfl, g8, rfl, rfl, ?_⟩
  refine wE_bin (wE_neg (wE_int ⟨_, rfl, (wE_name 3 rfl ?_)⟩))
  refine wO_sub ?_
  have hnl2 : ns.length - 1 - i < ns.length := by omega
  obtain ⟨nm1, hnm1⟩ : ∃ w, ns[ns.length - 1 - i]? = some w := ⟨_, List.getElem?_eq_getElem hnl2⟩
  refine wI_lst (atI_neg (y := .str nm1) (by rw [List.getElem?_map, List.length_map, show (-1 - (0 + (i : Int)) + (ns.length : Int)).toNat = ns.length - 1 - i by omega, hnm1]; rfl) (by omega) (by rw [List.length_map]; omega)) ?_
  refine wA_cons (wE_callTy (T := "tuple") TX.b_tuple (by decide +kernel) (wA_cons (wE_name 4 rfl (wA_nil ?_))))
  refine wC_tuple (.lst _) ?_
  refine wA_cons (wE_name 5 rfl (wA_cons (wE_name 7 rfl (wA_nil ⟨by show 4 ≤ sizeLine; decide, ?_⟩))))
  refine ⟨_, fd8, szLt (by rw [List.length_map]; omega), ?_⟩
  refine wSs_nil ?_
  have hnm2 := hns nm1 (List.mem_of_getElem? hnm1)
  have hsm : Pt.sm ⟨nm1, ins, b, give⟩ := ⟨hnm2, i2, sb, nm give hgive⟩
  have hnew : valI (pnPts ps) nm1 = none := valI_out fun p hp e => by
    obtain ⟨q2, hq2, rfl⟩ := List.mem_map.mp hp
    obtain ⟨j, hj, ej⟩ := S.nms q2 hq2
    have e2 : q2.nm = nm1 := e
    rw [e2] at ej
    have e3 := (List.getElem?_inj (by omega) hnd).mp (ej.trans hnm1.symm)
    omega
  have hok : Pt.ok ⟨nm1, ins, b, give⟩ (pnPts ps) := ⟨hnm2, hnew, j1, j4, i2, i3, smIts_ts sb, okIts_down ob, (same give).mp hgive⟩
  have hdat := Pt.dat hok hsm
  have hpd := S.pso.dat
  have epn : pnPts (ps ++ [(⟨nm1, ins, b, give⟩ : Pt)]) = pnPts ps ++ [(nm1, (ins.length : Int))] := by simp
  refine ⟨ps ++ [⟨nm1, ins, b, give⟩], rm2, _, _, _, _, _, rfl, by rw [List.map_append]; exact Mu.upd_same, by rw [List.length_append, hlen]; rfl, okPts_snoc S.ok (by simpa using hok), ⟨?_, fun x hx => ?_, by rw [List.length_append, hlen]; simp; omega⟩, fun x hx => ?_, (fun x hx => (List.mem_append.mp hx).elim (S.nb x) fun hx => by rw [List.mem_singleton.mp hx]; exact ⟨nb.1, Nat.le_trans nb.2 (by decide)⟩), fun x hx => ?_, ?_, (lx8.up (by omega)).del pm pl, ?_⟩
  · refine ⟨?_, ?_⟩
    · have h1 := hpd.1
      simp only [isD] at h1 ⊢
      refine isDs_all fun a ha => ?_
      rw [List.map_append] at ha
      rcases List.mem_append.mp ha with ha | ha
      · obtain ⟨q2, hq2, rfl⟩ := List.mem_map.mp ha
        exact isDs_mem h1 _ (List.mem_map.mpr ⟨q2, hq2, rfl⟩)
      · rw [List.mem_singleton.mp ha]; exact hdat.1
    · simp only [deep]
      suffices hh : deeps ((ps ++ [(⟨nm1, ins, b, give⟩ : Pt)]).map Pt.a) ≤ 59 by omega
      refine deeps_le fun a ha => ?_
      rw [List.map_append] at ha
      rcases List.mem_append.mp ha with ha | ha
      · have h2 := hpd.2
        simp only [deep] at h2
        have := deeps_get ha
        omega
      · rw [List.mem_singleton.mp ha]; exact Nat.le_trans hdat.2 (by decide)
  · rcases List.mem_append.mp hx with hx | hx
    · obtain ⟨h1, h2, h3⟩ := S.pso.all x hx
      refine ⟨h1, ?_, h3⟩
      rw [epn]; exact valI_old h2
    · obtain rfl := List.mem_singleton.mp hx
      refine ⟨hnm2, ?_, j4⟩
      rw [epn]; exact valI_new hnew
  · rcases List.mem_append.mp hx with hx | hx
    · exact S.sm x hx
    · rw [List.mem_singleton.mp hx]; exact hsm
  · rcases List.mem_append.mp hx with hx | hx
    · obtain ⟨j, hj, ej⟩ := S.nms x hx
      exact ⟨j, by omega, ej⟩
    · rw [List.mem_singleton.mp hx]; exact ⟨i, by omega, hnm1⟩
  · have : sizePts (ps ++ [⟨nm1, ins, b, give⟩]) = sizePts ps + (2 + ins.length + sizeIts b) := by simp [sizePts, Pt.size]
    omega
  · intro z o z1 z2 hz3
    have hz4 := ((((S.ls.trans ls6).trans ls7).trans ls8)) z o z1 z2 hz3
    have hz5 := ls04 z o z1 z2 hz3
    rw [Mu.upd_ne (fun e => by rw [e, np__law_parts] at hz5; cases hz5)]
    exact hz4
  obtain ⟨ps, rm', x3, x4, x5, x6, x7, rfl, S⟩ := hI
  rw [rgA_len] at S
  have hnp : (np - 0).toNat ≤ 2 := by omega
  have hsz := S.size
  have hlen := S.len
  have hlx := S.lx.up (d := c + 5300) (by omega)
  refine wSs_cons (wS_set 8 (wE_cal C__law_draw ar (by omega) (wA_cons (wE_name 0 rfl (wA_cons (wE_int (wA_nil ?_)))))) nd)
  refine ⟨m, l, 3, _, _, _, rfl, by decide, by decide, hlx, by omega, fun r5 μ6 c0 c1 lx6 ls6 => ?_⟩
  have fd6 := ls6 _ _ pm pl S.cell
  obtain ⟨fs6, at6, g6, _⟩ := lx6.room
  refine wSs_cons (wS_set 4 (wE_slice (wE_dget ar (wE_name 0 rfl (wE_str ?_)))) nd)
  refine ⟨_, _, .inr "names", _, rfl, g6, rfl, rfl, ?_⟩
  refine wE_name 8 rfl ⟨_, rfl, (wE_bin (wE_bin (wE_name 8 rfl (wE_int ?_))))⟩
  refine wO_add ?_
  refine wE_cal C__law_draw ar (by omega) (wA_cons (wE_name 0 rfl (wA_cons (wE_int (wA_nil ?_)))))
  refine ⟨m, l, 6, _, _, _, rfl, by decide, by decide, lx6, by omega, fun r6 μ7 d0 d1 lx7 ls7 => ?_⟩
  have fd7 := ls7 _ _ pm pl fd6
  refine wO_add ?_
  refine ⟨_, rfl, ?_⟩
  refine wSl_lstF ?_
  rw [cut_nms (by omega) (by omega) (by omega)]
  obtain ⟨i1, i2, i3⟩ := slice_nms (a := r5.toNat) (k := (r5 + 1 + r6).toNat - r5.toNat) hnd hns (by omega)
  have i4 : ∀ w ∈ (ns.drop r5.toNat).take ((r5 + 1 + r6).toNat - r5.toNat), w ∉ ZZL := fun w hw => (hns0 w (List.drop_subset _ _ (List.take_subset _ _ hw))).2
  generalize (ns.drop r5.toNat).take ((r5 + 1 + r6).toNat - r5.toNat) = ins at i1 i2 i3 i4 ⊢
  have j1 : 1 ≤ ins.length := by omega
  have j6 : ins.length ≤ 6 := by omega
  refine wSs_cons (wS_asg (wE_cal C__law_body ar (by omega) (wA_cons (wE_name 0 rfl (wA_cons (wE_callTy (T := "list") TX.b_list (by decide +kernel) (wA_cons (wE_name 4 rfl (wA_nil ?_)))))))))
  refine wC_listF (.lst _) ?_
  refine wA_cons (wE_name 1 rfl (wA_cons (wE_int (wA_cons (wE_name 2 rfl (wA_nil ?_))))))
  have kb : many * KB 0 ≤ 14 * 2560 := Nat.mul_le_mul hmany (by decide)
  refine ⟨m, l, p__law_parts, _, rm', ns, ins, pnPts ps, ps, many, 0, rfl, lx7, by omega, by omega, i2, (fun z => by rw [z] at j1; simp at j1), hns, by omega, by omega, fd7, pm, pl, S.pso, hmany, by omega, by decide, fun b T' rm2 μ8 ob sb nb zb same nm ne len lx8 ls8 => ?_⟩
  have fd8 := ls8 _ _ pm pl fd7
  have hpos : 0 < T'.length := List.length_pos_iff.mpr ne
  refine wG_tup (wGs_cons (wG_name 5 (wGs_cons (wG_name 6 (wGs_nil ?_) nd)) nd))
  refine wSs_cons (wS_set 9 (wE_lst (wA_cons (wE_ix (wE_name 6 rfl (wE_neg (wE_int ⟨_, rfl, ?_⟩)))))) nd)
  obtain ⟨y4, hy4, ey4⟩ := atI_back (xs := T'.map D.A.str) (i := -1) (by decide) (by rw [List.length_map]; omega)
  obtain ⟨o1, ho1, rfl⟩ := List.mem_map.mp hy4
  refine wI_lst ey4 ?_
  refine wA_nil ⟨by show 1 ≤ sizeLine; decide, fun p__law_outs np__law_outs => (wSs_cons (wS_for (wIt_range1 TX.b_range (wA_cons (wE_cal C__law_draw ar (by omega) (wA_cons (wE_name 0 rfl (wA_cons (wE_int (wA_nil ?_))))))))))⟩
  have om := (lx8.off np__law_outs).1
  have ol := (lx8.off np__law_outs).2
  refine ⟨m, l, 4, _, _, _, rfl, by decide, by decide, lx8.new np__law_outs, by omega, fun r7 μ9 e0 e1 lx9 ls9 => ?_⟩
  have od9 : μ9 p__law_outs = some (.lst ([o1].map D.A.str)) := ls9 _ _ om ol Mu.upd_same
  have hop : p__law_outs ≠ p__law_parts := fun z => by rw [z, fd8] at np__law_outs; cases np__law_outs
  have fd9 : μ9 p__law_parts = some (.lst (ps.map Pt.a)) := ls9 _ _ pm pl (by rw [Mu.upd_ne (Ne.symm hop)]; exact fd8)
  have ls08 : Ls m l μ μ8 := ((S.ls.trans ls6).trans ls7).trans ls8
  have ls09 : Ls m l μ μ9 := (ls08.new np__law_outs).trans ls9
  refine wA_nil ⟨_, rfl, by omega, by omega, ?_⟩
  refine ⟨fun i Γ' μ' => ∃ (os : List Str) (x3 x7 : Option D.A), Γ' = [some (.loc m), some (.int many), some (.loc p__law_parts), x3, some (.lst (ins.map D.A.str)), some (.tup (aIts b)), some (.lst (T'.map D.A.str)), x7, some (.int r5), some (.loc p__law_outs)] ∧ μ' p__law_outs = some (.lst (os.map D.A.str)) ∧ μ' p__law_parts = some (.lst (ps.map Pt.a)) ∧ os.length = i + 1 ∧ (∀ w ∈ os, w ∈ T') ∧ Lx m l (c + 49000 + i) rm2 (some ns) μ' ∧ Ls m l μ μ', ⟨[o1], _, _, rfl, od9, fd9, rfl, (fun w h => by rw [List.mem_singleton.mp h]; exact ho1), lx9.up (by omega), ls09⟩, fun i y Γ' μ' hy hI => ?_, fun Γ' μ' hI => ?_⟩
  obtain ⟨os, x3, x7, rfl, od, fd, hol, hoT, lx10, ls10⟩ := hI
  obtain ⟨hi, rfl⟩ := rgA_at hy
  refine wG_name 3 ?_ nd
  refine wSs_cons (wS_expr (wE_append (wE_name 9 rfl ?_)))
  refine ⟨_, _, rfl, od, ?_⟩
  refine wE_ix (wE_name 6 rfl (wE_cal C__law_draw ar (by omega) (wA_cons (wE_name 0 rfl (wA_cons (wE_callB (id := "len") TX.b_len (by decide +kernel) (wA_cons (wE_name 6 rfl (wA_nil ?_)))))))))
  refine wC_len (.lst _) ?_
  rw [List.length_map]
  refine wA_nil ?_
  refine ⟨m, l, _, _, _, _, rfl, by omega, by omega, lx10, by omega, fun r8 μ11 h0 h1 lx11 ls11 => ?_⟩
  obtain ⟨y5, hy5, ey5⟩ := atI_ex (xs := T'.map D.A.str) h0 (by rw [List.length_map]; omega)
  obtain ⟨o2, ho2, rfl⟩ := List.mem_map.mp hy5
  refine wI_lst ey5 ?_
  refine ⟨_, ls11 _ _ om ol od, szLt (by rw [List.length_map]; omega), ?_⟩
  refine wSs_nil ?_
  refine ⟨os ++ [o2], _, _, rfl, by rw [List.map_append]; exact Mu.upd_same, by rw [Mu.upd_ne (Ne.symm hop)]; exact ls11 _ _ pm pl fd, by rw [List.length_append, hol]; rfl, fun w hw => ?_, (lx11.up (by omega)).del om ol, ?_⟩
  · rcases List.mem_append.mp hw with hw | hw
    · exact hoT w hw
    · rw [List.mem_singleton.mp hw]; exact ho2
  · intro z o z1 z2 hz3
    have hz4 := (ls10.trans ls11) z o z1 z2 hz3
    have hz5 := ls08 z o z1 z2 hz3
    rw [Mu.upd_ne (fun e => by rw [e, np__law_outs] at hz5; cases hz5)]
    exact hz4
  obtain ⟨os, x3, x7, rfl, od, fd, hol, hoT, lx10, ls10⟩ := hI
  rw [rgA_len] at hol lx10
  refine wSs_cons (wS_ret (wE_tup (wA_cons (wE_callTy (T := "tuple") TX.b_tuple (by decide +kernel) (wA_cons (wE_name 2 rfl (wA_nil ?_)))))))
  refine wC_tuple (.loc fd) ?_
  refine wA_cons (wE_callTy (T := "tuple") TX.b_tuple (by decide +kernel) (wA_cons (wE_name 4 rfl (wA_nil ?_))))
  refine wC_tuple (.lst _) ?_
  refine wA_cons (wE_name 5 rfl (wA_cons (wE_callTy (T := "tuple") TX.b_tuple (by decide +kernel) (wA_cons (wE_name 9 rfl (wA_nil ?_))))))
  refine wC_tuple (.loc od) ?_
  refine wA_nil ⟨by show 4 ≤ sizeLine; decide, ?_⟩
  exact q ⟨ps, ins, b, os⟩ rm2 ns _ ⟨by show ps.length ≤ 6; omega, S.ok, j1, j6, i2, i3, smIts_ts sb, ob, by show 1 ≤ os.length; omega, by show os.length ≤ 4; omega, fun w hw => ⟨nm w (hoT w hw), (same w).mp (hoT w hw)⟩, by simp only [Pg.size]; omega⟩ ⟨S.sm, sb⟩ ⟨S.nb, nb.1⟩ i4 (lx10.up (by omega)) ls10

end
end D

set_option pp.maxSteps 5000
namespace D
open PySem PySem.Spec PyProof.Rows L2
mutual
def wsh : PyData → Bool
  | .dict _ => false
  | .tuple xs => wshs xs
  | .list xs => wshs xs
  | .int i => fig i
  | .str _ => true
  | .bool _ => true
  | .none => true
def wshs : List PyData → Bool
  | [] => true
  | x :: xs => wsh x && wshs xs
def fig (i : Int) : Bool := decide (Int.natAbs i < 10 ^ 4300)
end
section
variable {prog : Program} {w : World} {g0 : Heap}
theorem int_out {A : Around} {E : Value → Shared → Prop} {s : Shared} {i : Int} {u : Tok} {Q : Value → Shared → Prop} (nd : s.heap.NoDigits) (few : fig i = true)
    (q : Q (.str (toString i) s.toks) { s with toks := s.toks + 1 }) : wpAny (model prog w) A (call (.builtin "int.__repr__") [.int i u]) Q E s := by
  have few : i.natAbs < 10 ^ 4300 := of_decide_eq_true few
  refine wpAny_call_entry PySem.F.slot_int_repr (typeIs_int s i u) PySem.F.entry_int_repr ?_ (PySem.F.args_int_repr_1 _)
  exact wpAny_bind (m := Builtin.overDigitLimit? i) (overDigitLimit_any nd (fun _ => wpAny_bind (wpAny_mkStr (wpAny_pure ⟨_, rfl, q⟩) (int_text_fits10 few))) fun many => (Nat.not_lt.mpr many few).elim)
def OneW (prog : Program) (w : World) (g0 : Heap) (v : Value) (d : PyData) : Prop := ∃ bs, ReadAtMost g0 d.depth bs ∧ ReprK prog w bs g0 d.depth v d.shown
def AllW (prog : Program) (w : World) (g0 : Heap) (vs : List Value) (ds : List PyData) : Prop := ∃ bs, ReadAtMost g0 (PyData.depthAll ds) bs ∧ ReprAllK prog w bs g0 (PyData.depthAll ds) vs (PyData.shownAll ds)
theorem OneW.leaf {v : Value} {d : PyData} {as : List Addr} (r : Reads g0 v d as) (s : d.showable = true) (n : d.hasDict = false) (z : d.shown.length ≤ sizeLine) : OneW prog w g0 v d :=
  ReprK.of_reads r s (fun y => absurd (n.symm.trans y) (by decide)) z
theorem OneW.num {i : Int} {u : Tok} (nd : g0.NoDigits) (few : fig i = true) : OneW prog w g0 (.int i u) (.int i) := by
  refine ⟨[], fun _ z => (by cases z), fun at0 room A gs E s Q _ _ deep kept q => ?_⟩
  rw [pyReprUnder_leaf (Nat.le_trans (Nat.le_add_right _ _) room) (fun _ => by simp)]
  refine wpAny_bind (m := pyReprObj _) (wpAny_pyReprObj_slot (Nat.lt_of_le_of_lt (Nat.le_add_right _ _) deep) (typeIs_int s i u) PySem.F.slot_int_repr.toG ?_)
  exact int_out (nd.keeps kept) few ⟨_, _, rfl, wpAny_pure (q _ _ fun _ _ z => z)⟩
theorem AllW.nil : AllW prog w g0 [] [] := ⟨[], fun _ z => (by cases z), .nil⟩
theorem AllW.cons {v : Value} {d : PyData} {vs : List Value} {ds : List PyData} (o : OneW prog w g0 v d) (m : AllW prog w g0 vs ds) : AllW prog w g0 (v :: vs) (d :: ds) := by
  obtain ⟨as, low, one⟩ := o
  obtain ⟨bs, lows, many⟩ := m
  have l1 : d.depth ≤ PyData.depthAll (d :: ds) := by simp [PyData.depthAll, Nat.le_max_left]
  have l2 : PyData.depthAll ds ≤ PyData.depthAll (d :: ds) := by simp [PyData.depthAll, Nat.le_max_right]
  have one' : ReprK prog w (as ++ bs) g0 _ v d.shown := (one.more fun _ z => List.mem_append.mpr (.inl z)).level_le l1
  have many' : ReprAllK prog w (as ++ bs) g0 _ vs (PyData.shownAll ds) := many.more_le (fun _ z => List.mem_append.mpr (.inr z)) l2
  exact ⟨as ++ bs, (low.mono l1).append (lows.mono l2), by rw [PyData.shownAll]; exact .cons one' many'⟩
theorem AllW.over {a : Addr} {d : PyData} {as : List Addr} {vs : List Value} {ds : List PyData} (m : AllW prog w g0 vs ds) (r : Reads g0 (.ref a) d as) (hd : d.depth = PyData.depthAll ds + 1)
    (up : ∀ bs, a ∉ bs → ReprAllK prog w bs g0 (PyData.depthAll ds) vs (PyData.shownAll ds) → ReprK prog w (a :: bs) g0 (PyData.depthAll ds + 1) (.ref a) d.shown) : OneW prog w g0 (.ref a) d := by
  obtain ⟨bs, low, many⟩ := m
  have lt : PyData.depthAll ds < d.depth := by omega
  exact ⟨a :: bs, low.cons r (Nat.le_of_lt lt), by rw [hd]; exact up bs (not_mem_of_deeper r lt low) many⟩
theorem AllW.list {a : Addr} {o : Obj} {vs : Array Value} {n : Nat} {ds : List PyData} {as : List Addr} (h1 : g0.get? a = some o) (h2 : o.cls = .type "list") (h3 : o.data = .seq vs n) (h4 : ReadsAll g0 vs.toList ds as) (m : AllW prog w g0 vs.toList ds) : OneW prog w g0 (.ref a) (.list ds) := by
  refine m.over (.list h1 h2 h3 h4) rfl fun bs off many => ?_
  rw [PyData.shown]
  rcases vs with ⟨_ | ⟨v, l⟩⟩
  · cases h4
    exact ReprK.listEmpty h1 h2 h3
  · refine ReprK.list h1 h2 h3 off many.length_eq fun i y q => many.item i y ?_
    rw [← q]; simp
theorem AllW.tuple {a : Addr} {o : Obj} {vs : Array Value} {n : Nat} {ds : List PyData} {as : List Addr} (h1 : g0.get? a = some o) (h2 : o.cls = .type "tuple") (h3 : o.data = .seq vs n) (h4 : ReadsAll g0 vs.toList ds as) (m : AllW prog w g0 vs.toList ds) : OneW prog w g0 (.ref a) (.tuple ds) :=
  m.over (.tuple h1 h2 h3 h4) rfl fun bs off many => by rw [PyData.shown]; exact ReprK.tuple h1 h2 h3 off many
mutual
theorem one_W (nd : g0.NoDigits) {v : Value} {d : PyData} {as : List Addr} (r : Reads g0 v d as) (s : wsh d = true) (z : d.shown.length ≤ sizeLine) : OneW prog w g0 v d :=
  match r with
  | .none => .leaf .none rfl rfl z
  | .bool b => .leaf (.bool b) rfl rfl z
  | .str x u => .leaf (.str x u) rfl rfl z
  | .int i u => .num nd (by simpa only [wsh] using s)
  | .list h1 h2 h3 h4 => AllW.list h1 h2 h3 h4 (all_W nd h4 (by simpa only [wsh] using s) fun t ht => Nat.le_trans (listText_mem_le ht) (by simpa only [PyData.shown] using z))
  | .tuple h1 h2 h3 h4 => AllW.tuple h1 h2 h3 h4 (all_W nd h4 (by simpa only [wsh] using s) fun t ht => Nat.le_trans (tupleText_mem_le ht) (by simpa only [PyData.shown] using z))
  | .dict .. => by simp [wsh] at s
theorem all_W (nd : g0.NoDigits) {vs : List Value} {ds : List PyData} {as : List Addr} (r : ReadsAll g0 vs ds as) (s : wshs ds = true) (z : ∀ t ∈ PyData.shownAll ds, t.length ≤ sizeLine) : AllW prog w g0 vs ds :=
  match r with
  | .nil => AllW.nil
  | .cons r1 rs => by
    obtain ⟨s1, s2⟩ := Bool.and_eq_true_iff.mp (by simpa only [wshs] using s)
    obtain ⟨z1, z2⟩ := List.forall_mem_cons.mp (by simpa only [PyData.shownAll] using z)
    exact AllW.cons (one_W nd r1 s1 z1) (all_W nd rs s2 z2)
end
theorem repr_W {A : Around} {E : Value → Shared → Prop} {s : Shared} {a : Addr} {xs : List PyData} {as : List Addr} {Q : Value → Shared → Prop} (hn : g0.NoDigits) (r : Reads g0 (.ref a) (.list xs) as) (hs : wsh (.list xs) = true) (hg : A.guards = some [])
    (hu : A.units + ((PyData.list xs).depth + 1) < cLine) (hk0 : ∀ b o, g0.get? b = some o → s.heap.get? b = some o)
    (hQ : ∀ h' u tk, (∀ b o, s.heap.get? b = some o → h'.get? b = some o) → Q (.str (PyData.list xs).shown u) { s with heap := h', toks := tk })
    (hz : (PyData.list xs).shown.length ≤ sizeLine) : wpAny (model prog w) A (call (.builtin "repr") [.ref a]) Q E s := by
  have whole := r
  have dep : (PyData.list xs).depth = PyData.depthAll xs + 1 := rfl
  rw [PyData.shown] at hz hQ
  obtain _ | _ | _ | _ | @⟨_, o, vs, n, _, _, h1, h2, h3, h4⟩ := r
  obtain ⟨bs, low, many⟩ := all_W (prog := prog) (w := w) hn h4 (by simpa only [wsh] using hs) fun t ht => Nat.le_trans (listText_mem_le ht) hz
  have off : a ∉ bs := not_mem_of_deeper whole (Nat.lt_of_lt_of_eq (Nat.lt_succ_self _) dep.symm) low
  have now : s.heap.get? a = some o := hk0 a o h1
  refine call_repr_slot (by omega) ⟨o, now, h2⟩ PySem.F.slot_list_repr.toG ?_
  rcases vs with ⟨_ | ⟨v, l⟩⟩
  · cases h4
    exact call_list_repr_empty ⟨o, now, h2⟩ now h3 ⟨_, _, rfl, hQ s.heap _ _ fun _ _ z => z⟩
  · refine call_list_reprK h1 h2 h3 off many.length_eq (fun i y q => many.item i y ?_) hg (fun b _ => Clear.nil b) ?_ hk0 (fun g u tk keep => ⟨_, _, rfl, hQ g u tk keep⟩) hz
    · rw [← q]; simp
    · show A.units + 1 + (PyData.depthAll xs + 1) < cLine
      omega
end
mutual
inductive Rs (μ : Mu) : A → A → Prop
  | dat {x : A} : isD x = true → Rs μ x x
  | own {p : Addr} {xs ys : List A} : μ p = some (.lst xs) → RsL μ xs ys → Rs μ (.loc p) (.lst ys)
  | lst {xs ys : List A} : RsL μ xs ys → Rs μ (.lst xs) (.lst ys)
  | tup {xs ys : List A} : RsL μ xs ys → Rs μ (.tup xs) (.tup ys)
inductive RsL (μ : Mu) : List A → List A → Prop
  | nil : RsL μ [] []
  | cons {x y : A} {xs ys : List A} : Rs μ x y → RsL μ xs ys → RsL μ (x :: xs) (y :: ys)
end
section
variable {K : PySem.W.Frag} {μ : Mu} {M F H : Hp}
mutual
theorem Rs.dp (rl : Rel K μ M F H) : ∀ {x y : A} {v : V}, Rs μ x y → Rep K H x v → Dp K H v (toD y)
  | _, _, _, .dat h, r => dp_of h r
  | _, _, _, .own (ys := ys) h1 h2, r => by
    rw [rep_loc] at r; subst r
    obtain ⟨_, o, e1, vs, rfl, e2⟩ := rl.own _ _ h1
    simp only [toD]
    exact .lst (.inl (.inl e1)) (RsL.dp rl h2 (e2.mono rl.sub))
  | _, _, _, .lst h, r => by
    rw [rep_lst] at r; obtain ⟨a, vs, rfl, h1, h2⟩ := r
    simp only [toD]
    exact .lst (.inl (.inl h1)) (RsL.dp rl h h2)
  | _, _, _, .tup h, r => by
    rw [rep_tup] at r; obtain ⟨a, vs, rfl, h1, h2⟩ := r
    simp only [toD]
    exact .tup h1 (RsL.dp rl h h2)
theorem RsL.dp (rl : Rel K μ M F H) : ∀ {xs ys : List A} {vs : List V}, RsL μ xs ys → RepL K H xs vs → DpAll K H vs (toDs ys)
  | _, _, _, .nil, r => by simp only [RepL] at r; subst r; simp only [toDs]; exact .nil
  | _, _, _, .cons h t, r => by
    simp only [RepL] at r
    obtain ⟨v, w, rfl, h1, h2⟩ := r
    simp only [toDs]
    exact .cons (Rs.dp rl h h1) (RsL.dp rl t h2)
end
end
theorem wC_reprW {X : Cx} {μ : Mu} {Q : A → Mu → Prop} {k : Nat} {x : A} {ys : List A} (ar : Ar X k) (nd : X.base.NoDigits) (hx : Rs μ x (.lst ys)) (hw : wsh (toD (.lst ys)) = true) (hd : deep (.lst ys) ≤ 60) (hz : (toD (.lst ys)).shown.length ≤ sizeLine)
    (q : Q (.str (toD (.lst ys)).shown) μ) : wC X (.builtin "repr") [x] μ Q := by
  intro M F H vs rl rp
  refine ⟨fun pins s σ us I rv => ?_⟩
  obtain ⟨v, rfl, h⟩ := rp.one
  obtain ⟨u, rfl, ru⟩ := rv.one
  obtain ⟨a, rfl⟩ : ∃ a, v = .ref a := by
    cases hx with
    | dat _ => rw [rep_lst] at h; obtain ⟨a, _, e, _⟩ := h; exact ⟨a, e⟩
    | own _ _ => rw [rep_loc] at h; exact ⟨_, h⟩
    | lst _ => rw [rep_lst] at h; obtain ⟨a, _, e, _⟩ := h; exact ⟨a, e⟩
  cases ru
  obtain ⟨as, rd⟩ := Dp.reads I (toD (.lst ys)) _ _ (Rs.dp rl hx (h.mono rl.sub)) rfl
  have hd2 := depth_of (.lst ys)
  have hu := ar.u64
  have nd2 : s.heap.NoDigits := nd.keeps I.bk
  have rd2 : Reads s.heap (.ref a) (.list (toDs ys)) as := by simpa only [toD] using rd
  refine repr_W nd2 rd2 (by simpa only [toD] using hw) ar.show0 (by simp only [toD] at hd2; omega) (fun _ _ z => z) (fun h' t tk kp => ?_) (by simpa only [toD] using hz)
  exact ⟨.str (toD (.lst ys)).shown, H, I.kept kp, ⟨t, by simp only [toD]⟩, .pure rl (rep_str.mpr rfl) q⟩
end D

namespace D
open PySem PySem.Spec PyProof.Rows L2
theorem law_endN {P : Program} {w : World} {K : PySem.W.Frag} {mg mb : Str → Option Value} {CX : CXT} {k : Nat} {fa a : Addr} {fd : FuncData} {x : Str} {c : AC} {s1 : Shared} {vs : List Value} {ns : List Int}
    (inK : K.In s1.heap) (gl : s1.heap.Ns mainGlobals mg) (bl : s1.heap.Ns builtinsNs mb) (bl2 : ∀ x : Str, x ≠ "__name__" → mb x = bootBuiltins x) (lim : s1.heap.NoLimit) (dig : s1.heap.NoDigits) (gens : s1.gens = #[])
    (obj : s1.heap.get? a = some { cls := .type "list", data := .seq vs.toArray }) (hints : IntsAre vs ns) (len : ns.length ≤ sizeLine) (room : Room k callerA)
    (F : ∀ base : Heap, K.In base → base.Ns mainGlobals mg → base.NoDigits → FnD P w K mg base CX k fa fd [x] c) (bind : ∀ (s : Shared) (u : Value), BindsTo s fd ⟨[u], []⟩ [(x, u)])
    (hc : c [.fls (ns.map A.int)] (fun _ => none) (fun y _ => y = .bl true) fun _ _ _ => False) (hCX : ∀ H e s', CX [] H s1 (fun _ _ _ => False) e s' → False) :
    codeAny (model P w) callerA (.call (.ref fa) ⟨[.ref a], []⟩) (fun r s' => r = .ok (.ret (.bool true)) ∧ OldK s1.heap s'.heap ∧ s'.os = s1.os ∧ AllBare s'.gens) s1 := by
  have rv := vals_ints hints
  have many := hints.length
  have main : ∀ H : Hp, Only H → SqL K H a (ns.map V.int) → HOk P w H s1.heap → (∀ b, H b ≠ none → b = a) → (H a ≠ none → K.lookup a = none) →
      codeAny (model P w) callerA (.call (.ref fa) ⟨[.ref a], []⟩) (fun r s' => r = .ok (.ret (.bool true)) ∧ OldK s1.heap s'.heap ∧ s'.os = s1.os ∧ AllBare s'.gens) s1 := by
    intro H only sq hok isA notK
    have off : ∀ {b : Addr} {o : Obj} {es : Array DictEntry} {ep : Nat}, s1.heap.get? b = some o → o.data = .dict es ep → H b = none := by
      intro b o es ep e d
      match q : H b with
      | none => rfl
      | some u =>
        obtain rfl : b = a := isA b (by rw [q]; exact fun z => nomatch z)
        rw [obj] at e
        cases e
        exact nomatch d
    have ns' : ∀ {b : Addr} {m : Str → Option Value}, s1.heap.Ns b m → (hidT s1.heap H).Ns b m := by
      intro b m h
      obtain ⟨o, es, ep, e, d, r⟩ := h
      exact ⟨o, es, ep, hidT_get e (off e d), d, r⟩
    have inKb : K.In (hidT s1.heap H) := by
      intro b o e
      refine hidT_get (inK b o e) ?_
      match q : H b with
      | none => rfl
      | some u =>
        obtain rfl : b = a := isA b (by rw [q]; exact fun z => nomatch z)
        rw [notK (by rw [q]; exact fun z => nomatch z)] at e
        cases e
    obtain ⟨mc, l1, l2⟩ := lim
    obtain ⟨md, g1, g2⟩ := dig
    have e0 : Env0 P w K mg (hidT s1.heap H) callerA [] s1 H :=
      { frames := rfl, mod := ⟨inKb, ns' gl, ⟨mb, ns' bl, bl2⟩, ⟨mc, ns' l1, l2⟩⟩, bs := fun b o e => of_hidT e, bsz := Nat.le_of_eq (hidT_size _ _), funs := trivial, frf := fun b hb => (List.not_mem_nil hb).elim, hok := hok, bare := .of_eq gens }
    have rl : Rel K (fun _ => none) (fun _ => none) H H := ⟨.refl _, fun _ _ z => (nomatch z), fun _ _ z => (nomatch z)⟩
    have sp : spOf K c [.ref a] H (fun v _ => v = .bl true) (fun _ _ _ => False) :=
      ⟨[.fls (ns.map A.int)], H, fun _ => none, fun _ => none, _, _, .cons (rep_fls.mpr ⟨a, _, rfl, sq, .map (fun i => rep_int.mpr rfl) ns⟩) .nil, rl, hc, fun y μ' F' H' v q _ _ r => by rw [q, rep_bl] at r; exact r, fun _ _ _ _ _ z _ _ => z⟩
    refine codeAny_mono ((F _ inKb (ns' gl) ⟨md, ns' g1, g2⟩).run callerA [] s1 H ⟨[.ref a], []⟩ [.ref a] [.ref a] _ _ room rfl e0 (bind s1 (.ref a)) (.cons rfl .nil) sp) fun r s2 h => ?_
    match r, h with
    | .error e, h => exact (hCX H e s2 h).elim
    | .ok .next, h => exact h.elim
    | .ok .brk, h => exact h.elim
    | .ok .cont, h => exact h.elim
    | .ok (.ret u), ⟨v, H2, os, bare, un, hok2, rv2, q⟩ =>
      have q2 : v = .bl true := q
      subst q2
      obtain rfl : u = Value.bool true := rv2
      suffices keep : ∀ b o, s1.heap.get? b = some o → s2.heap.get? b = some o from ⟨rfl, OldK.of_keep keep, os, bare⟩
      intro b o e
      match q3 : H b with
      | none => exact un.keep b o e q3 List.not_mem_nil List.not_mem_nil
      | some u3 =>
        rcases only b with z | ⟨ob, xs, z⟩
        · rw [z] at q3; cases q3
        · obtain ⟨g1, _⟩ := hok b _ z
          obtain ⟨g2, _⟩ := hok2 b _ (un.frzs b ob _ z)
          rw [g1] at e; cases e
          exact g2
  match hk : K.lookup a with
  | some o =>
    have e := inK a o hk
    rw [obj] at e
    cases e
    exact main (fun _ => none) (fun _ => .inl rfl) (.inr ⟨_, vs.toArray, _, hk, rfl, rfl, rfl, by rw [List.size_toArray, many]; exact len, by simpa using rv⟩) (fun _ _ z => nomatch z) (fun _ z => absurd rfl z) fun z => absurd rfl z
  | none =>
    refine main (upd (fun _ => none) a (.frz { cls := .type "list", data := .seq vs.toArray } (.lst (ns.map V.int)))) (fun b => ?_) (.inl (.inr ⟨_, upd_same⟩)) (fun b u z => ?_) (fun b z => ?_) fun _ => hk
    · by_cases hb : b = a
      · subst hb; exact .inr ⟨_, _, upd_same⟩
      · exact .inl (upd_ne hb)
    · by_cases hb : b = a
      · subst hb
        rw [upd_same] at z; cases z
        exact ⟨obj, by rw [List.length_map]; exact len, vs, _, rv, obj⟩
      · rw [upd_ne hb] at z; cases z
    · exact Classical.byContradiction fun hb => z (upd_ne hb)
theorem walk_endN {l : PySem.W.OpenLaw} {k : Nat} {q : Program} {loose : List Str} {XP : (Str → Option Value) → Heap → Prop} {YP : World → Heap → Prop} {d : DefRec} {K : Params → PySem.W.Frag} {c : World → AC} {x : Str}
    (hn : l.most = some 63) (hdf : d.params.defaults = []) (room : Room k callerA) (hY : ∀ (w : World) (h : Heap), YP w h → (K w.params).In h)
    (F : ∀ (w : World) (mg : Str → Option Value) (fa : Addr) (g : Heap), (K w.params).In g → g.Ns mainGlobals mg →
      mg d.name = some (.ref fa) → ∃ fd : FuncData, (∀ (s : Shared) (u : Value), BindsTo s fd ⟨[u], []⟩ [(x, u)]) ∧ ∀ base : Heap, (K w.params).In base → base.Ns mainGlobals mg → base.NoDigits → FnD l.prog w (K w.params) mg base CX0 k fa fd [x] (c w))
    (hc : ∀ (w : World) (ns : List Int), ns.length ≤ 63 → c w [.fls (ns.map A.int)] (fun _ => none) (fun y _ => y = .bl true) fun _ _ _ => False) : PySem.W.WalkO q loose XP YP l.row.toRowW d [] (fun f vs => PySem.call f vs) := by
  refine Att.attach_call hn hdf ?_
  intro w s0 s1 mg mb fa o pm cd doc a vs ns gr Y ho hd hcd hmg hobj hints hlen hg
  have inK := hY w _ Y
  obtain ⟨fd, hb, hF⟩ := F w mg fa _ inK gr.T.g hmg
  exact law_endN inK gr.T.g gr.T.b gr.T.builtins gr.T.nolimit gr.T.nodigits hg hobj hints (Nat.le_trans hlen (by decide)) room hF hb (hc w ns hlen) fun _ _ _ z => z
section
variable {K : PySem.W.Frag} {mg : Str → Option Value}
theorem repL_ints' {F : Hp} (ws : List Int) : RepL K F (ws.map A.int) (ws.map V.int) := .map (fun w => rep_int.mpr rfl) ws
theorem kn_ints {h : Heap} {x : Str} {p : Addr} {its : Array Value} {n : Nat} {sl : Array (Option Value)} {od : Option Addr} {ws : List Int} (X : K.In h) (G : h.Ns mainGlobals mg) (q : PySem.W.nsIn K mainGlobals x = some (some (.ref p)))
    (l : K.lookup p = some ⟨.type "tuple", od, .seq its n, sl⟩) (e : its.toList.map intOf = ws.map some) (hz : ws.length ≤ 1000) : Kn K mg x (.tup (ws.map A.int)) := by
  have hv := vals_nums e
  have hl : its.size = ws.length := by have := congrArg List.length e; simpa using this
  exact ⟨.ref p, _, PySem.W.mg_of X G q, rfl, fun F => rep_tup.mpr ⟨p, ws.map V.int, rfl, .inr ⟨_, its, n, l, rfl, rfl, by rw [hl]; exact Nat.le_trans hz (by decide), hv⟩, repL_ints' ws⟩⟩
end
end D

namespace D
open PySem PySem.Spec PyProof.Rows L2
open LamX (TabB)
def muT (ts : List Addr) (qs : Addr → Str) : Mu := fun b => if b ∈ ts then some (.tbl (qs b)) else none
theorem law_endS {P : Program} {w : World} {K : PySem.W.Frag} {mg mb : Str → Option Value} {k : Nat} {fa a : Addr} {fd : FuncData} {x : Str} {c : AC} {s1 : Shared} {vs : List Value} {ns : List Int} {cs : List (Addr × Addr)} (qs : Addr → Str) {SP : Prop} (seer : SP → s1.heap.NoSeer)
    (inK : K.In s1.heap) (gl : s1.heap.Ns mainGlobals mg) (bl : s1.heap.Ns builtinsNs mb) (bl2 : ∀ x : Str, x ≠ "__name__" → mb x = bootBuiltins x) (lim : s1.heap.NoLimit) (dig : s1.heap.NoDigits) (gens : s1.gens = #[])
    (hT : ∀ p ∈ cs, s1.heap.get? p.2 = some { cls := .none, data := .fields #[] }) (nT : ∀ p ∈ cs, K.lookup p.2 = none) (C : ∀ p ∈ cs, PySem.W.CodeHd s1.heap p.1 p.2)
    (hbm : ∃ (bm : Addr) (ob : Obj), mg "__builtins__" = some (.ref bm) ∧ bm ≠ builtinsNs ∧ s1.heap.get? bm = some ob ∧ ob.cls = .type "module" ∧ ob.dict = some builtinsNs ∧ ob.data = .plain)
    (obj : s1.heap.get? a = some { cls := .type "list", data := .seq vs.toArray }) (hints : IntsAre vs ns) (len : ns.length ≤ sizeLine) (room : Room k callerA)
    (F : ∀ base : Heap, K.In base → base.Ns mainGlobals mg → base.NoDigits → (SP → base.NoSeer) → (∀ p ∈ cs, TabB base mg p.1 p.2) → FnD P w K mg base CX0 k fa fd [x] c) (bind : ∀ (s : Shared) (u : Value), BindsTo s fd ⟨[u], []⟩ [(x, u)])
    (hc : c [.fls (ns.map A.int)] (muT (cs.map (·.2)) qs) (fun y _ => y = .bl true) fun _ _ _ => False) :
    codeAny (model P w) callerA (.call (.ref fa) ⟨[.ref a], []⟩) (fun r s' => r = .ok (.ret (.bool true)) ∧ OldK s1.heap s'.heap ∧ s'.os = s1.os ∧ AllBare s'.gens) s1 := by
  have rv := vals_ints hints
  have many := hints.length
  generalize hts : cs.map (·.2) = ts at hc
  have memT : ∀ p ∈ cs, p.2 ∈ ts := fun p hp => by rw [← hts]; exact List.mem_map.mpr ⟨p, hp, rfl⟩
  have ofT : ∀ b ∈ ts, ∃ p ∈ cs, p.2 = b := fun b hb => by rw [← hts] at hb; exact List.mem_map.mp hb
  have isT : ∀ b ∈ ts, s1.heap.get? b = some { cls := .none, data := .fields #[] } := fun b hb => by obtain ⟨p, hp, rfl⟩ := ofT b hb; exact hT p hp
  have aT : a ∉ ts := fun z => by
    have q := isT a z
    rw [obj] at q
    have q2 := congrArg Obj.data (Option.some.inj q)
    cases q2
  have main : ∀ H0 : Hp, (∀ b, H0 b ≠ none → b = a) → (∀ b u, H0 b = some u → ∃ o xs, u = .frz o (.lst xs)) → (∀ H : Hp, Ex H0 H → SqL K H a (ns.map V.int)) → (∀ b u, H0 b = some u → ∀ H, ObjOk P w H s1.heap b u) → (H0 a ≠ none → K.lookup a = none) →
      codeAny (model P w) callerA (.call (.ref fa) ⟨[.ref a], []⟩) (fun r s' => r = .ok (.ret (.bool true)) ∧ OldK s1.heap s'.heap ∧ s'.os = s1.os ∧ AllBare s'.gens) s1 := by
    intro H0 isA only sq ok0 notK
    have n0 : ∀ b ∈ ts, H0 b = none := fun b hb => Classical.byContradiction fun z => aT (isA b z ▸ hb)
    let H : Hp := fun b => if b ∈ ts then some (.tbl #[]) else H0 b
    have hH1 : ∀ b, b ∈ ts → H b = some (.tbl #[]) := fun b hb => if_pos hb
    have hH2 : ∀ b, b ∉ ts → H b = H0 b := fun b hb => if_neg hb
    have ex0 : Ex H0 H := fun b o e => by rw [hH2 b (fun hb => by rw [n0 b hb] at e; cases e)]; exact e
    have hok : HOk P w H s1.heap := fun b u e => by
      by_cases hb : b ∈ ts
      · rw [hH1 b hb] at e; cases e; exact isT b hb
      · rw [hH2 b hb] at e; exact ok0 b u e H
    have off : ∀ {b : Addr} {o : Obj}, s1.heap.get? b = some o → (∀ vs n, o.data ≠ .seq vs n) → o.data ≠ .fields #[] → H b = none := by
      intro b o e d1 d2
      match q : H b with
      | none => rfl
      | some u =>
        by_cases hb : b ∈ ts
        · rw [isT b hb] at e; cases e; exact (d2 rfl).elim
        · rw [hH2 b hb] at q
          obtain rfl : b = a := isA b (by rw [q]; exact fun z => nomatch z)
          rw [obj] at e; cases e
          exact (d1 _ _ rfl).elim
    have ns' : ∀ {b : Addr} {m : Str → Option Value}, s1.heap.Ns b m → (hidT s1.heap H).Ns b m := by
      intro b m h
      obtain ⟨o, es, ep, e, d, r⟩ := h
      exact ⟨o, es, ep, hidT_get e (off e (fun vs n z => by rw [d] at z; cases z) (fun z => by rw [d] at z; cases z)), d, r⟩
    have inKb : K.In (hidT s1.heap H) := by
      intro b o e
      refine hidT_get (inK b o e) ?_
      match q : H b with
      | none => rfl
      | some u =>
        by_cases hb : b ∈ ts
        · obtain ⟨p, hp, rfl⟩ := ofT b hb
          rw [nT p hp] at e; cases e
        · rw [hH2 b hb] at q
          obtain rfl : b = a := isA b (by rw [q]; exact fun z => nomatch z)
          rw [notK (by rw [q]; exact fun z => nomatch z)] at e
          cases e
    obtain ⟨mc, l1, l2⟩ := lim
    obtain ⟨md, g1, g2⟩ := dig
    have TB : ∀ p ∈ cs, TabB (hidT s1.heap H) mg p.1 p.2 := by
      intro p hp
      have hTp := hT p hp
      refine ⟨?_, ?_, fun z => ?_⟩
      · obtain ⟨o, us, file, tf, flags, tg, inF, text, tt, e1, r1, r2, r3, rest⟩ := C p hp
        refine ⟨o, us, file, tf, flags, tg, inF, text, tt, hidT_get e1 (off e1 (fun vs n z => ?_) fun z => ?_), r1, r2, r3, rest⟩
        · rw [r2] at z; cases z
        · rw [r2] at z; cases z; simp at r3
      · obtain ⟨bm, ob, b1, b2, b3, b4, b5, b6⟩ := id hbm
        have nG : ¬ bm = mainGlobals := fun q => by
          obtain ⟨o, es, ep, e, hd, _⟩ := gl
          rw [q, e] at b3; cases b3
          rw [hd] at b6; cases b6
        have nP : bm ≠ p.2 := fun q => by rw [q, hTp] at b3; cases b3; cases b6
        exact ⟨bm, ob, b1, b2, nG, nP, hidT_get b3 (off b3 (fun vs n z => by rw [b6] at z; cases z) fun z => by rw [b6] at z; cases z), b4, b5, b6⟩
      · obtain ⟨o, es, ep, e, hd, _⟩ := gl
        rw [z, hTp] at e; cases e
        cases hd
    have SE : SP → (hidT s1.heap H).NoSeer := fun sp => by
      obtain ⟨⟨mc', c1, c2, c3⟩, ⟨mm, m1, m2⟩, ⟨mi, i1, i2⟩, _⟩ := seer sp
      obtain ⟨bm, ob, b1, b2, b3, b4, b5, b6⟩ := id hbm
      exact ⟨⟨mc', ns' c1, c2, c3⟩, ⟨mm, ns' m1, m2⟩, ⟨mi, ns' i1, i2⟩, mg, bm, ob, ns' gl, b1, hidT_get b3 (off b3 (fun vs n z => by rw [b6] at z; cases z) fun z => by rw [b6] at z; cases z), b4, b5⟩
    have e0 : Env0 P w K mg (hidT s1.heap H) callerA [] s1 H :=
      { frames := rfl, mod := ⟨inKb, ns' gl, ⟨mb, ns' bl, bl2⟩, ⟨mc, ns' l1, l2⟩⟩, bs := fun b o e => of_hidT e, bsz := Nat.le_of_eq (hidT_size _ _), funs := trivial, frf := fun b hb => (List.not_mem_nil hb).elim, hok := hok, bare := .of_eq gens }
    have rl : Rel K (muT ts qs) (fun _ => none) H0 H := by
      refine ⟨ex0, fun b m e => ?_, fun _ _ z => (nomatch z)⟩
      unfold muT at e
      split at e
      · rename_i hb
        cases e
        exact ⟨n0 b hb, _, hH1 b hb, #[], rfl, trivial, fun pos cv z => by simp [codeAmong] at z⟩
      · cases e
    have sp : spOf K c [.ref a] H (fun v _ => v = .bl true) (fun _ _ _ => False) :=
      ⟨[.fls (ns.map A.int)], H0, fun _ => none, muT ts qs, _, _, .cons (rep_fls.mpr ⟨a, _, rfl, sq H0 (.refl _), .map (fun i => rep_int.mpr rfl) ns⟩) .nil, rl, hc, fun y μ' F' H' v q _ _ r => by rw [q, rep_bl] at r; exact r, fun _ _ _ _ _ z _ _ => z⟩
    refine codeAny_mono ((F _ inKb (ns' gl) ⟨md, ns' g1, g2⟩ SE TB).run callerA [] s1 H ⟨[.ref a], []⟩ [.ref a] [.ref a] _ _ room rfl e0 (bind s1 (.ref a)) (.cons rfl .nil) sp) fun r s2 h => ?_
    match r, h with
    | .error e, h => exact h.elim
    | .ok .next, h => exact h.elim
    | .ok .brk, h => exact h.elim
    | .ok .cont, h => exact h.elim
    | .ok (.ret u), ⟨v, H2, os, bare, un, hok2, rv2, q⟩ =>
      have q2 : v = .bl true := q
      subst q2
      obtain rfl : u = Value.bool true := rv2
      have key : ∀ b o, b ∉ ts → s1.heap.get? b = some o → s2.heap.get? b = some o := by
        intro b o nb e
        match q3 : H b with
        | none => exact un.keep b o e q3 List.not_mem_nil List.not_mem_nil
        | some u3 =>
          have q4 := q3
          rw [hH2 b nb] at q4
          obtain ⟨ob, xs, rfl⟩ := only b u3 q4
          obtain ⟨g1, _⟩ := hok b _ q3
          obtain ⟨g2, _⟩ := hok2 b _ (un.frzs b ob _ q3)
          rw [g1] at e; cases e
          exact g2
      have grown : ∀ p ∈ cs, ∃ more : Array Value, s2.heap.get? p.2 = some { cls := .none, data := .fields more } := fun p hp => by
        obtain ⟨more, z⟩ := un.tbls p.2 #[] (hH1 p.2 (memT p hp))
        exact ⟨_, hok2 p.2 _ z⟩
      have seen : ∀ b o, s1.heap.get? b = some o → b ∉ ts ∨ ∃ p ∈ cs, b = p.2 ∧ o = { cls := .none, data := .fields #[] } ∧ ∃ more : Array Value, s2.heap.get? b = some { cls := .none, data := .fields more } := by
        intro b o e
        rcases Classical.em (b ∈ ts) with m | m
        · obtain ⟨p, hp, rfl⟩ := ofT b m
          exact .inr ⟨p, hp, rfl, Option.some.inj (e.symm.trans (hT p hp)), grown p hp⟩
        · exact .inl m
      refine ⟨rfl, ⟨fun b o e => (seen b o e).elim (fun m => .inl (key b o m e)) ?_, fun b o e => (seen b o e).elim (fun m => ⟨o, key b o m e⟩) fun ⟨_, _, _, _, _, g⟩ => ⟨_, g⟩⟩, os, bare⟩
      rintro ⟨p, hp, rfl, rfl, more, g⟩
      have same : #[] ++ more = more := Array.empty_append
      exact Or.inr (Or.inl ⟨((C p hp).tab (hT p hp)).isCodeTable, rfl, #[], more, rfl, same.symm ▸ g⟩)
  match hk : K.lookup a with
  | some o =>
    have e := inK a o hk
    rw [obj] at e
    cases e
    exact main (fun _ => none) (fun _ z => absurd rfl z) (fun _ _ z => nomatch z) (fun H _ => .inr ⟨_, vs.toArray, _, hk, rfl, rfl, rfl, by rw [List.size_toArray, many]; exact len, by simpa using rv⟩) (fun _ _ z => nomatch z) fun z => absurd rfl z
  | none =>
    refine main (upd (fun _ => none) a (.frz { cls := .type "list", data := .seq vs.toArray } (.lst (ns.map V.int)))) (fun b z => ?_) (fun b u z => ?_) (fun H e => .inl (.inr ⟨_, e _ _ upd_same⟩)) (fun b u z H => ?_) fun _ => hk
    · exact Classical.byContradiction fun hb => z (upd_ne hb)
    · by_cases hb : b = a
      · subst hb
        rw [upd_same] at z; cases z
        exact ⟨_, _, rfl⟩
      · rw [upd_ne hb] at z; cases z
    · by_cases hb : b = a
      · subst hb
        rw [upd_same] at z; cases z
        exact ⟨obj, by rw [List.length_map]; exact len, vs, _, rv, obj⟩
      · rw [upd_ne hb] at z; cases z
theorem walk_endT {l : PySem.W.OpenLaw} {k : Nat} {q : Program} {loose : List Str} {XP : (Str → Option Value) → Heap → Prop} {YP : World → Heap → Prop} {d : DefRec} {K : Params → PySem.W.Frag} {c : World → AC} {x : Str} (cs : List (Addr × Addr)) (qs : Addr → Str)
    (hn : l.most = some 63) (hdf : d.params.defaults = []) (room : Room k callerA) (hY : ∀ (w : World) (h : Heap), YP w h → (K w.params).In h)
    (hT : ∀ (w : World) (h : Heap), YP w h → ∀ p ∈ cs, h.get? p.2 = some { cls := .none, data := .fields #[] }) (nT : ∀ (w : World), ∀ p ∈ cs, (K w.params).lookup p.2 = none) (C : ∀ (w : World) (h : Heap), YP w h → ∀ p ∈ cs, PySem.W.CodeHd h p.1 p.2)
    (F : ∀ (w : World) (mg : Str → Option Value) (fa : Addr) (g : Heap), (K w.params).In g → g.Ns mainGlobals mg →
      mg d.name = some (.ref fa) → ∃ fd : FuncData, (∀ (s : Shared) (u : Value), BindsTo s fd ⟨[u], []⟩ [(x, u)]) ∧ ∀ base : Heap, (K w.params).In base → base.Ns mainGlobals mg → base.NoDigits → (∀ p ∈ cs, TabB base mg p.1 p.2) → FnD l.prog w (K w.params) mg base CX0 k fa fd [x] (c w))
    (hc : ∀ (w : World) (ns : List Int), ns.length ≤ 63 → c w [.fls (ns.map A.int)] (muT (cs.map (·.2)) qs) (fun y _ => y = .bl true) fun _ _ _ => False) : PySem.W.WalkO q loose XP YP l.row.toRowW d [] (fun f vs => PySem.call f vs) := by
  refine Att.attach_call hn hdf ?_
  intro w s0 s1 mg mb fa o pm cd doc a vs ns gr Y ho hd hcd hmg hobj hints hlen hg
  have inK := hY w _ Y
  obtain ⟨fd, hb, hF⟩ := F w mg fa _ inK gr.T.g hmg
  exact law_endS (SP := False) qs False.elim inK gr.T.g gr.T.b gr.T.builtins gr.T.nolimit gr.T.nodigits hg (hT w _ Y) (nT w) (C w _ Y) gr.T.bmain hobj hints (Nat.le_trans hlen (by decide)) room (fun base i g d _ t => hF base i g d t) hb (hc w ns hlen)
theorem walk_endS {l : PySem.W.OpenLaw} {k : Nat} {q : Program} {loose : List Str} {XP : (Str → Option Value) → Heap → Prop} {YP : World → Heap → Prop} {d : DefRec} {K : Params → PySem.W.Frag} {c : World → AC} {x : Str} (cs : List (Addr × Addr)) (qs : Addr → Str)
    (hn : l.most = some 63) (hdf : d.params.defaults = []) (room : Room k callerA) (hI : importsNone q = true) (hY : ∀ (w : World) (h : Heap), YP w h → (K w.params).In h)
    (hT : ∀ (w : World) (h : Heap), YP w h → ∀ p ∈ cs, h.get? p.2 = some { cls := .none, data := .fields #[] }) (nT : ∀ (w : World), ∀ p ∈ cs, (K w.params).lookup p.2 = none) (C : ∀ (w : World) (h : Heap), YP w h → ∀ p ∈ cs, PySem.W.CodeHd h p.1 p.2)
    (F : ∀ (w : World) (mg : Str → Option Value) (fa : Addr) (g : Heap), (K w.params).In g → g.Ns mainGlobals mg →
      mg d.name = some (.ref fa) → ∃ fd : FuncData, (∀ (s : Shared) (u : Value), BindsTo s fd ⟨[u], []⟩ [(x, u)]) ∧ ∀ base : Heap, (K w.params).In base → base.Ns mainGlobals mg → base.NoDigits → base.NoSeer → (∀ p ∈ cs, TabB base mg p.1 p.2) → FnD l.prog w (K w.params) mg base CX0 k fa fd [x] (c w))
    (hc : ∀ (w : World) (ns : List Int), ns.length ≤ 63 → c w [.fls (ns.map A.int)] (muT (cs.map (·.2)) qs) (fun y _ => y = .bl true) fun _ _ _ => False) : PySem.W.WalkO q loose XP YP l.row.toRowW d [] (fun f vs => PySem.call f vs) := by
  refine Att.attach_call hn hdf ?_
  intro w s0 s1 mg mb fa o pm cd doc a vs ns gr Y ho hd hcd hmg hobj hints hlen hg
  have inK := hY w _ Y
  obtain ⟨fd, hb, hF⟩ := F w mg fa _ inK gr.T.g hmg
  exact law_endS (SP := True) qs (fun _ => gr.T.seer hI) inK gr.T.g gr.T.b gr.T.builtins gr.T.nolimit gr.T.nodigits hg (hT w _ Y) (nT w) (C w _ Y) gr.T.bmain hobj hints (Nat.le_trans hlen (by decide)) room (fun base i g d s t => hF base i g d (s trivial) t) hb (hc w ns hlen)
end D

namespace D
open PySem PySem.Spec PyProof.Rows L2
section
variable {P : Program} {w : World} {mg : Str → Option Value} {base : Heap} {K : PySem.W.Frag}
theorem fnDc {x qual : Str} {st : Stmt} {f : Addr} {fd : FuncData} {N ps : List Str} {k : Nat} {c : AC} (F : Fun K x qual st f fd) (S : FnScope N ps (defScope st)) (len : ∀ xs μ Q E, c xs μ Q E → xs.length = ps.length)
    (go : ∀ {B : Bs} (cdv : Value) (A : Around) (outer : List Env) (s : Shared) (H : Hp) (E : XK) (xs : List D.A) (μ : Mu) (Q : D.A → Mu → Prop) (E0 : Value → Option Addr → Mu → Prop), Ar (cx0 P w K mg base N qual (defScope st) f cdv A outer s H E) k → c xs μ Q E0 → fd.code = cdv →
      wSs B (cx0 P w K mg base N qual (defScope st) f cdv A outer s H E) (defBody st) (startA N xs) μ { nx := fun _ μ' => Q .non μ', rt := Q }) : FnD P w K mg base CX0 (k + 1) f fd ps c := by
  obtain ⟨oc, od, kV, doc, pm, an, cdv, ct, osl, rfl, lk, hcd⟩ := F.ex
  refine FnD.body lk hcd S len fun A outer s H vs Q E room sh sp => rdSs_nox ?_
  obtain ⟨xs, F0, M, μ, Q0, E0, rp, rl, hc, hq, he⟩ := sp
  refine (go cdv A outer s H E xs μ Q0 E0 ⟨room, sh⟩ hc rfl (L2.start N vs) M F0 H (Bs.ok.own M F0) (relS_start N rp) rl).imp (fun σ2 H2 q => ?_) (fun v H2 q => ?_) (fun σ2 H2 q => ?_) (fun σ2 H2 q => ?_)
  · obtain ⟨Γ', F', μ', ex, _, rl', q⟩ := q
    exact hq .non μ' F' H2 .non q ex rl' (rep_non.mpr rfl)
  · obtain ⟨y, F', μ', ex, rl', rp', q⟩ := q
    exact hq y μ' F' H2 v q ex rl' rp'
  · obtain ⟨_, _, _, _, _, _, q⟩ := q; exact q
  · obtain ⟨_, _, _, _, _, _, q⟩ := q; exact q
theorem lgD {x a : Str} {st : Stmt} {g : Addr} {fd : FuncData} {N : List Str} {k : Nat} {c : DL → Mu → (A → Mu → Prop) → Prop} (F : Fun K x x st g fd) (S : FnScope N [a] (defScope st)) (hN : N[0]? = some a) (hv : Vis (defScope st) a) (gm : mg x = some (.ref g)) (gk : PySem.W.keepIn K (.ref g) = true) (gb : Binds K fd [a] [])
    (go : ∀ {B : Bs} (cdv : Value) (A : Around) (outer : List Env) (s : Shared) (H : Hp) (f : Addr) (dl : DL) (μ : Mu) (Q : D.A → Mu → Prop), Ar (cx0 P w K mg base N x (defScope st) g cdv A outer s H C8.E0) k → c dl μ Q → Act B (cx0 P w K mg base N x (defScope st) g cdv A outer s H C8.E0) a f dl →
      wSs B (cx0 P w K mg base N x (defScope st) g cdv A outer s H C8.E0) (defBody st) (startA N [.loc f]) μ { nx := fun _ μ' => Q .non μ', rt := Q })
    (hd : (a == ("__debug__" : Str)) = false := by decide) (hcd : (a == ("__classdict__" : Str)) = false := by decide) : LG P w K mg base k x c := by
  obtain ⟨oc, od, kV, doc, pm, an, cdv, ct, osl, rfl, lk, hc⟩ := F.ex
  exact ⟨g, _, _, _, _, _, _, _, _, _, _, _, _, _, N, a, gm, gk, lk, hc, gb, S, hN, hv, hd, hcd, fun B A outer s H f dl μ Q ar hc act => go cdv A outer s H f dl μ Q ⟨ar.room, ar.show0⟩ hc ⟨fun B' pn xe Γ μ Q E1 p1 p2 le tk h0 h => act.o B' pn xe Γ μ Q E1 p1 p2 le tk h0 h⟩⟩
end
end D

namespace D
open PySem PySem.Spec PyProof.Rows L2
section
variable {B : Bs} {X : Cx} {Γ : G} {μ : Mu} {Q : A → Mu → Prop} {o e : Expr} {apos cpos : Pos}
def getI (kvs : List (Str × Int)) (k : Str) : A := match valI kvs k with
  | some i => .int i
  | none => .non
theorem wE_kget1 {p : Addr} {kvs : List (Str × Int)} (Dk : KDi X.K X.w p kvs) (h : wE B X o Γ μ fun x μ1 => x = .loc p ∧ wE B X e Γ μ1 fun y μ2 => ∃ k : Str, y = .str k ∧ Q (getI kvs k) μ2)
    (hb : attributeBase o "get" X.env (eval o X.env) = eval o X.env := by rfl)
    (hf : ((backTo cpos (starEach [e] X.env)).all (fun x => !x.1) && (backToKw cpos (keywordEach [] X.env)).all (fun x => x.1.isSome) && decide (([e] : List Expr).length + ([] : List Keyword).length + (if ([] : List Keyword).isEmpty then 0 else 1) < 30)) = true := by rfl)
    (hl : (apos.endLine == cpos.line) = true := by rfl) (ht : backTo cpos (starEach [e] X.env) = [(false, eval e X.env)] := by rfl) : wE B X (.Call (.Attribute o "get" apos) [e] [] cpos) Γ μ Q := by
  obtain ⟨es, n, k1, k2, k3, k4⟩ := Dk.ex
  intro σ M F H bo rs rl
  refine ⟨fun pins s I => ?_⟩
  refine wpAny_Call_method hb hf hl PySem.F.plainAttrs_dict PySem.F.slot_dict_get PySem.F.type_dict_get (thn ((h σ M F H bo rs rl).o pins s I) fun u s1 got => ?_)
  obtain ⟨v, H1, I1, rv, x, F1, μ1, ex1, r1, p1, rfl, q1⟩ := got
  rw [rep_loc] at p1; subst p1
  obtain rfl : u = Value.ref p := rv
  have mo := fun {s : Shared} {pins : List (Addr × Obj)} {σ : L2.St} {H : Hp} (I : Inv X pins σ H s) => PySem.W.mapOf_K (prog := X.prog) (w := X.w) I.kIn k1 k2
  refine ⟨(mo I1).typeIs, fun b q => ?_, ?_⟩
  · cases q; exact ⟨_, I1.kIn _ _ k1, rfl⟩
  rw [ht]
  refine Calls.callWith_builtin rfl (Calls.evalArgs_plain (Calls.spliced_cons (thn ((q1 σ M F1 H1 (bo.mono ex1) (rs.mono ex1) r1).o pins s1 I1) fun iv s2 got2 => Calls.spliced_nil ?_)))
  obtain ⟨v2, H2, I2, rv2, y, F2, μ2, ex2, r2, p2, k, rfl, q2⟩ := got2
  rw [rep_str] at p2; subst p2
  obtain ⟨t2, rfl⟩ := rv2
  refine call_meetsIn PySem.F.slot_dict_get (mo I2).typeIs PySem.F.entry_dict_get (PySem.F.args_dict_get_2 _ _) (meets_dict_get (strKind X.prog X.w) p (strKind_is X.prog X.w k t2) k3) ⟨_, mo I2, ?_⟩
  rcases ent_find k k4 with ⟨h1, h2⟩ | ⟨d, m, t, h1, h2, h3⟩
  · have e0 : findBy Value.isStrOf es k = none := by unfold findBy; rw [← Array.find?_toList, h2]; rfl
    simp only [e0, Option.getD_none]
    exact ⟨.non, H2, I2.tok _, rfl, .non, F2, μ2, ex1.trans ex2, r2, rep_non.mpr rfl, by unfold getI at q2; rw [h1] at q2; exact q2⟩
  · have e0 : findBy Value.isStrOf es k = some (.int m t) := by unfold findBy; rw [← Array.find?_toList, h2, ← h3]; rfl
    simp only [e0, Option.getD_some]
    exact ⟨.int m, H2, I2.tok _, ⟨_, rfl⟩, .int m, F2, μ2, ex1.trans ex2, r2, rep_int.mpr rfl, by unfold getI at q2; rw [h1] at q2; exact q2⟩
end
end D

namespace D
open PySem PySem.Spec PyProof.Rows L2
theorem back_count (n : Nat) : Builtin.Slice.slicePlaces ((n : Int) - 1) (-1) (-1) = n := by
  unfold Builtin.Slice.slicePlaces
  cases n with
  | zero => rfl
  | succ n =>
    simp only [show ¬ ((-1 : Int) > 0) by decide, if_false]
    rw [if_pos (by omega)]
    simp only [Int.neg_neg, Int.ediv_one]
    omega
theorem pick_map {α β : Type} {f : α → Option β} {g : α → β} : ∀ l : List α, (∀ a ∈ l, f a = some (g a)) → l.filterMap f = l.map g := by
  intro l
  induction l with
  | nil => intro _; rfl
  | cons a l ih => intro h; simp [h a (.head _), ih fun b hb => h b (.tail _ hb)]
theorem back_items (l : List Value) : (List.range l.length).filterMap (fun (m : Nat) => l[((l.length : Int) - 1 + (m : Int) * (-1)).toNat]?) = l.reverse := by
  have all : (List.range l.length).filterMap (fun (m : Nat) => l[((l.length : Int) - 1 + (m : Int) * (-1)).toNat]?) = (List.range l.length).map fun m => l[l.length - 1 - m]?.getD .none := by
    refine pick_map _ fun m hm => ?_
    have lt : m < l.length := List.mem_range.mp hm
    have pl : ((l.length : Int) - 1 + (m : Int) * (-1)).toNat = l.length - 1 - m := by omega
    rw [pl, List.getElem?_eq_getElem (by omega)]; rfl
  rw [all]
  refine List.ext_getElem (by simp) fun i h1 h2 => ?_
  have lt : i < l.length := by simpa using h2
  rw [List.getElem_map, List.getElem_range, List.getElem_reverse, List.getElem?_eq_getElem (by omega)]; rfl
section
variable {prog : Program} {w : World} {A : Around} {E : Value → Shared → Prop} {s : Shared}
theorem slice_back {sl : Addr} {st : Value} {n : Nat} {Q : Int × Int × Nat → Shared → Prop} (hs : s.heap.IsSliceOf sl .none .none st) (ps : IsPart st (some (-1))) (q : Q ((n : Int) - 1, -1, n) s) :
    wpAny (model prog w) A (Builtin.Slice.sliceApplied (.ref sl) (pure (n : Int))) Q E s := by
  obtain ⟨o, e, _, dt⟩ := hs
  have rd : ∀ {i : Nat} {v : Value} {R : Value → Shared → Prop}, (#[Value.none, .none, st] : Array Value)[i]? = some v → R v s → wpAny (model prog w) A (field (.ref sl) i) R E s := fun hv r => wpAny_field e dt hv r
  have parts : wpAny (model prog w) A (Builtin.Slice.sliceFields (.ref sl)) (fun r s1 => r = (.none, .none, st) ∧ s1 = s) E s := by
    unfold Builtin.Slice.sliceFields
    exact wpAny_bind (rd (v := .none) rfl (wpAny_bind (rd (v := .none) rfl (wpAny_bind (rd (v := st) rfl (wpAny_pure ⟨rfl, rfl⟩))))))
  unfold Builtin.Slice.sliceApplied
  refine wpAny_bind (wpAny_mono parts (fun r s1 h => ?_) fun _ _ z => z)
  obtain ⟨rfl, rfl⟩ := h
  refine wpAny_bind (HT.slicePart_ ps ?_)
  show wpAny _ _ (if _ then _ else _) _ _ _
  rw [if_neg (by decide)]
  refine wpAny_bind (slicePart_none (wpAny_bind (slicePart_none (wpAny_bind (wpAny_pure ?_)))))
  have e : (((n : Int) - 1, -1, Builtin.Slice.slicePlaces ((n : Int) - 1) (-1) (-1)) : Int × Int × Nat) = ((n : Int) - 1, -1, n) := by rw [back_count]
  exact wpAny_pure (e ▸ q)
theorem tup_back {t sl : Addr} {xs : List Value} {st : Value} {Q : Value → Shared → Prop} (ht : IsTup s.heap t xs.toArray) (hs : s.heap.IsSliceOf sl .none .none st) (ps : IsPart st (some (-1))) (sz : xs.length ≤ sizeLine)
    (q : Q (.ref s.heap.objs.size) { s with heap := s.heap.push { cls := .type "tuple", data := .seq xs.reverse.toArray } }) : wpAny (model prog w) A (getItem (.ref t) (.ref sl)) Q E s := by
  have isSl : s.TypeIs (.ref sl) "slice" := hs.elim fun o p => ⟨o, p.1, p.2.1⟩
  refine getItem_slot ht.typeIs (by decide) PyProof.Rows.slot_tuple_getitem (wpAny_call_entry PyProof.Rows.slot_tuple_getitem ht.typeIs entry_tuple_getitem ?_ (args_tuple_getitem _ _))
  refine wpAny_bind (m := Builtin.Tuple.tupleItemsOf (.ref t)) (tupleItemsOf_ ht ?_)
  refine wpAny_bind (m := typeOf (.ref sl)) (wpAny_typeOf isSl ?_)
  rw [if_pos (by decide)]
  refine wpAny_bind (slice_back hs ps ?_)
  have sz' : sizeOk (.seq xs.reverse.toArray) := by show xs.reverse.toArray.size ≤ sizeLine; simpa using sz
  have items : ((List.range xs.toArray.size).filterMap fun (m : Nat) => xs.toArray[(((xs.toArray.size : Nat) : Int) - 1 + (m : Int) * (-1)).toNat]?).toArray = xs.reverse.toArray := by
    simpa using congrArg List.toArray (back_items xs)
  show wpAny _ _ (if ((((xs.toArray.size : Nat) : Int) - 1) == 0 && (-1 : Int) == 1 && xs.toArray.size == xs.toArray.size) = true then _ else _) _ _ s
  rw [if_neg (by simp), items]
  refine wpAny_bind (m := Builtin.Tuple.tupleExact _) (wpAny_newObj_type ?_ sz')
  first
    | exact wpAny_pure ⟨_, rfl, wpAny_pure q⟩
    | exact wpAny_pure ⟨_, rfl, q⟩
    | exact wpAny_bind (wpAny_pure (wpAny_pure ⟨_, rfl, wpAny_pure q⟩))
end
section
variable {B : Bs} {X : Cx}
def tBack (K : PySem.W.Frag) (te : TE) : TE := fun σ H Q => te σ H fun x H1 => ∃ a xs, x = .ref a ∧ SqT K H1 a xs ∧ ∀ p, H1 p = none → Q (.ref p) (upd H1 p (.tup xs.reverse))
theorem minus_one {k : Nat} {p1 p2 : Pos} : PO X (some (.UnaryOp .USub (.Constant (.int 1) k p1) p2)) (tPart (tUn (rU fun i => .int (-i)) (tC (.int 1)))) := po_some (pe_un un_neg pe_int)
theorem pe_back {e : Expr} {te : TE} {k : Nat} {p1 p2 p3 pos : Pos} (he : PE X e te) : PE X (.Subscript e (.Slice none none (some (.UnaryOp .USub (.Constant (.int 1) k p1) p2)) p3) pos) (tBack X.K te) := by
  constructor
  intro pins s σ H Q I h
  refine Subscript_ (thn (he.run pins s σ H _ I h) fun v s1 got => wpAny_Slice ?_)
  obtain ⟨x, H1, I1, rx, a, xs, rfl, sq, q⟩ := got
  obtain rfl : v = Value.ref a := rx
  rw [evalPart_none]
  refine wpAny_pure (wpAny_pure (thn (minus_one.run pins s1 σ H1 (fun o H2 => o = some (-1) ∧ H2 = H1) I1 ⟨1, rfl, -1, rfl, rfl, rfl⟩) fun st s2 part => ?_))
  obtain ⟨_, H2, I2, ps, rfl, same⟩ := part
  rw [same] at I2
  let s3 : Shared := { s2 with heap := s2.heap.push { cls := .type "slice", data := .fields #[.none, .none, st] } }
  have I3 : L2.Inv X pins σ H1 s3 := I2.kept (t' := s2.toks) fun _ _ => Heap.get?_push_of_some _
  obtain ⟨its, vals, tup, le⟩ := I3.tuple sq
  show wpAny (model X.prog X.w) X.A (subscriptTail e _ (.ref a) (.ref s2.heap.objs.size)) (EP X pins σ Q) X.xe s3
  refine tail_any (ops := [.ref a, .ref s2.heap.objs.size]) tup.typeIs PyProof.Rows.slot_tuple_getitem.lookup (tup_back tup (Heap.IsSliceOf.new _ .none .none st) ps (vals.length ▸ le) ?_) (by with_unfolding_all rfl)
  have fresh : H1 s3.heap.objs.size = none := I3.hok.fresh (Nat.le_refl _)
  refine ⟨.ref s3.heap.objs.size, _, I3.laid (t' := s3.toks) (o := .tup xs.reverse) (fun _ _ => Heap.get?_push_of_some _) (Nat.le_refl _) ?_, rfl, q _ fresh⟩
  exact ⟨by simpa using le, its.reverse, vals.reverse, ⟨_, Heap.get?_push_size _ rfl, rfl, 0, rfl⟩⟩
variable {Γ : G} {μ : Mu} {Q : A → Mu → Prop} {a : Expr} {pos : Pos}
theorem wE_revT {k : Nat} {p1 p2 p3 : Pos} (h : wE B X a Γ μ fun x μ1 => ∃ xs, x = .tup xs ∧ Q (.tup xs.reverse) μ1) : wE B X (.Subscript a (.Slice none none (some (.UnaryOp .USub (.Constant (.int 1) k p1) p2)) p3) pos) Γ μ Q := wE_of (pe_back pe_rd) fun σ M F H bo rs r => by
  refine (h σ M F H bo rs r).imp fun v H1 ⟨x, F1, μ1, e1, r1, p1, xs, ex, q1⟩ => ?_
  subst ex; rw [rep_tup] at p1
  obtain ⟨p, vs, rfl, h1, h2⟩ := p1
  refine ⟨p, vs, rfl, r1.sub.t h1, fun l nl => ?_⟩
  obtain ⟨ex, rl'⟩ := r1.newF (o := .tup vs.reverse) nl
  exact ⟨_, _, _, e1.trans ex, rl', rep_tup.mpr ⟨l, _, rfl, .inl (.inl upd_same), h2.reverse.mono ex⟩, q1⟩
theorem wE_revL {k : Nat} {p1 p2 p3 : Pos} (h : wE B X a Γ μ fun x μ1 => ∃ xs, IsL μ1 x xs ∧ Q (.lst xs.reverse) μ1) : wE B X (.Subscript a (.Slice none none (some (.UnaryOp .USub (.Constant (.int 1) k p1) p2)) p3) pos) Γ μ Q := wE_of (pe_revL pe_rd) fun σ M F H bo rs r => by
  refine (h σ M F H bo rs r).imp fun v H1 ⟨x, F1, μ1, e1, r1, p1, xs, hx, q1⟩ => ?_
  obtain ⟨p, vs, rfl, h1, h2⟩ := hx.rep r1 p1
  refine ⟨p, vs, rfl, .inl (.inl h1), fun l nl => ?_⟩
  obtain ⟨ex, rl'⟩ := r1.newF (o := .lst vs.reverse) nl
  exact ⟨_, _, _, e1.trans ex, rl', rep_lst.mpr ⟨l, _, rfl, upd_same, h2.reverse.mono ex⟩, q1⟩
theorem wC_reprD0 {k : Nat} {p : Addr} (ar : Ar X k) (hp : μ p = some (.dic [])) (q : Q (.str "{}") μ) : wC X (.builtin "repr") [.loc p] μ Q := by
  intro M F H vs rl rp
  refine ⟨fun pins s σ us I rv => ?_⟩
  obtain ⟨v, rfl, h⟩ := rp.one
  obtain ⟨u, rfl, ru⟩ := rv.one
  rw [rep_loc] at h; subst h; cases ru
  obtain ⟨_, _, h1, ws, rfl, h3⟩ := rl.own p _ hp
  have e0 : ws = [] := by
    cases ws with
    | nil => rfl
    | cons => simp [RepK] at h3
  subst e0
  obtain ⟨_, hsm, ps, kv, o2, es, ep, ho, hc, hd, _, hpr, _⟩ := dk_of I.hok h1
  have ep0 : ps = [] := by cases kv; rfl
  subst ep0
  have empty : es.toList = [] := by
    rcases z : es.toList with _ | _
    · rfl
    · rw [z] at hpr; cases hpr
  have noKeys : ReadsAll s.heap (es.toList.map (·.key)) (([] : List (PyData × PyData)).map (·.1)) [] := by rw [empty]; exact .nil
  have noVals : ReadsAll s.heap (es.toList.map (·.val)) (([] : List (PyData × PyData)).map (·.2)) [] := by rw [empty]; exact .nil
  have hu := ar.u64
  exact repr_of_reads' (.dict ho hc.1 hd noKeys noVals) (by decide) (fun _ z => by simp at z; rw [z] at hsm; simp at hsm) ar.show0 (by show X.A.units + 2 < cLine; omega) (fun _ _ z => z) (fun h' t tk kp => ⟨.str "{}", H, I.kept kp, ⟨t, rfl⟩, .pure rl (rep_str.mpr rfl) q⟩) (by decide)
end
end D

namespace D
open PySem PySem.Spec PyProof.Rows L2
def enumObj (it : Addr) : Obj := { cls := .type "enumerate", data := .fields #[.none, .bool false, .ref it, rawInt 0, .none, .none] }
theorem enum_made {v : Value} {o : Obj} {C : Heap → Prop} (B : Begins v o C) : Meets (Builtin.«enumerate.__new__» ⟨[.type "enumerate", v], []⟩) (fun _ R s => C s.heap ∧ R (.ok (.ret (.ref (s.heap.objs.size + 1)))) { s with heap := (s.heap.push o).push (enumObj s.heap.objs.size) }) :=
  .of_wp fun prog w A R s given => by
    obtain ⟨hp, gs, dr, tk, os⟩ := s
    have kind := sub_enumerate
    have size : (hp.push o).objs.size = hp.objs.size + 1 := Heap.size_push ..
    have start : ∀ {A' : Around} {E : Value → Shared → Prop} {Q : Value → Shared → Prop}, Q (.ref hp.objs.size) ⟨hp.push o, gs, dr, tk, os⟩ → wpAny (model prog w) A' (pyIter v) Q E ⟨hp, gs, dr, tk, os⟩ := B.iter prog w _ _ ⟨hp, gs, dr, tk, os⟩ _ given.1
    have made := given.2
    rw [← size] at made
    wp_walk using start
    refine wpAny_stack_any fun frames => wpAny_pure ?_
    split <;> (try (rename_i c _ _ _ _ _; cases c == Value.type "enumerate")) <;> (wp_walk using start; exact ⟨_, rfl, made⟩)
theorem enum_call {prog : Program} {w : World} {A : Around} {E : Value → Shared → Prop} {s : Shared} {v : Value} {o : Obj} {C : Heap → Prop} {Q : Value → Shared → Prop} (B : Begins v o C) (c : C s.heap)
    (q : Q (.ref (s.heap.objs.size + 1)) { s with heap := (s.heap.push o).push (enumObj s.heap.objs.size) }) : wpAny (model prog w) A (call (.type "enumerate") [v]) Q E s := by
  have last : ((s.heap.push o).push (enumObj s.heap.objs.size)).get? (s.heap.objs.size + 1) = some (enumObj s.heap.objs.size) := by
    rw [← Heap.size_push s.heap o]; exact Heap.get?_push_size _ rfl
  exact callType_new F.called_enumerate (by decide) (F.typeCall_enumerate_1 v) (F.newCall_enumerate_1 v) (fun x => F.args_object_init_2 x v) F.entry_enumerate_new (enum_made B) ⟨c, ⟨_, last, rfl⟩, q⟩
def IteT (K : PySem.W.Frag) (a : Addr) : L2.It where
  go i H := ∃ xs x, SqT K H a xs ∧ xs[i]? = some x
  stop i H := ∃ xs : List V, SqT K H a xs ∧ xs.length = i
  yld i H v H' := ∃ T x, v = .ref T ∧ H T = none ∧ H' = upd H T (.tup [.int (i : Nat), x]) ∧ ∀ xs, SqT K H a xs → xs[i]? = some x
def EnumAt (e it a : Addr) (i : Nat) (h : Heap) : Prop := (∃ old, IsEnum h e it ((i : Nat) : Int) old) ∧ h.IsTupleIter it a i
section
variable {P : Program} {w : World} {K : PySem.W.Frag} {a e it : Addr}
theorem EnumAt.keep {i : Nat} {h h' : Heap} (st : EnumAt e it a i h) (k : ∀ b ∈ [e, it], ∀ o, h.get? b = some o → h'.get? b = some o) : EnumAt e it a i h' :=
  ⟨st.1.imp fun _ q => k e (by simp) _ q, st.2.at fun o q => k it (by simp) o q⟩
theorem enum_walk {A : Around} (hd : A.in1.handled = none) (ei : e ≠ it) (ai : a ≠ it) (ae : a ≠ e) (its : Array Value) :
    WalksT P w A e [e, it, a] [e, it] its.size (fun i vals => ∃ t x, its[i]? = some x ∧ vals = #[.int i t, x]) (fun i h => (∃ old, IsEnum h e it i old) ∧ h.IsTupleIter it a i ∧ h.IsTuple a its)
      (fun i T h => (∃ x, IsEnumOut h e it ((i : Int) + 1) x T) ∧ (h.IsTupleIter it a (i + 1) ∧ h.IsTuple a its) ∧ T ≠ e ∧ T ≠ it) :=
  WalksT.enumerateD (Draws.tuple hd it a ai its) e ei (by simp [ei, Ne.symm ae]) (by simp)
theorem turn_enumT {elts : List Expr} {kk : Nat} {tpos : Pos} (ei : e ≠ it) (ai : a ≠ it) (ae : a ≠ e) : Turn P w K (.Tuple elts kk tpos) (IteT K a) [e, it] e (EnumAt e it a) where
  mem := .head _
  keep := fun i h h' st k => st.keep k
  self := fun A i s Q E st q => wpAny_pyIter_enum st.1.choose_spec q
  obj := fun i h st => by
    obtain ⟨⟨old, he⟩, o, ho, _, dt⟩ := st
    refine List.forall_mem_cons.mpr ⟨⟨_, he, fun v z => nomatch z⟩, List.forall_mem_cons.mpr ⟨⟨o, ho, fun v z => ?_⟩, fun _ z => nomatch z⟩⟩
    rw [dt] at z; cases z
  done := by
    rintro X rfl rfl rfl calm i pins s σ H E I fp st ⟨xs, sq, rfl⟩
    obtain ⟨its, vals, tup, _⟩ := I.tuple sq
    have size : its.toArray.size = xs.length := by rw [List.size_toArray]; exact vals.length.symm
    refine (enum_walk (show X.A.in1.handled = none from I.ok.hd calm) ei ai ae its.toArray).done s _ E ?_ fun h' tk keep => ⟨rfl, I.turnedL (ch := [e, it]) keep fp⟩
    rw [size]; exact ⟨st.1, st.2, tup⟩
  item := by
    rintro X rfl rfl rfl calm i pins s σ H E I fp st ⟨xs, x, sq, hx⟩
    obtain ⟨its, vals, tup, _⟩ := I.tuple sq
    obtain ⟨u, hu, ru⟩ := vals.get hx
    have W := enum_walk (P := X.prog) (w := X.w) (A := X.A) (show X.A.in1.handled = none from I.ok.hd calm) ei ai ae its.toArray
    have lt : i < its.toArray.size := by rw [List.size_toArray]; exact (List.getElem?_eq_some_iff.mp hu).1
    refine W.item i s _ E lt ⟨st.1, st.2, tup⟩ fun T us h1 tk1 pair new isT mid keep1 => ⟨.ref T, rfl, W.go elts kk tpos i T _ _ E mid fun h2 st2 keep2 => ?_⟩
    obtain ⟨t, x', hx', rfl⟩ := pair
    obtain rfl : u = x' := by
      rw [show its.toArray[i]? = its[i]? by simp, hu] at hx'
      exact Option.some.inj hx'
    have made : ObjOk X.prog X.w (upd H T (.tup [.int (i : Nat), x])) h2 T (.tup [.int (i : Nat), x]) := by
      obtain ⟨o, ho, rest⟩ := isT
      exact ⟨by show 2 ≤ sizeLine; decide, [.int i t, u], .cons ⟨t, rfl⟩ (.cons ru .nil), o, keep2 T o (W.apart i T h1 mid) ho, rest⟩
    refine ⟨.ref T, _, I.turnedNew (t' := tk1) (ch := [e, it]) (fun b o off q => keep2 b o off (keep1 b o off q)) fp new made, rfl, ⟨T, x, rfl, I.hok.fresh new, rfl, fun ys hy => ?_⟩, ⟨st2.1, st2.2.1⟩, fun b hb => ?_⟩
    · rw [I.tuple_inj hy sq]; exact hx
    · have low : b < s.heap.objs.size := by
        obtain ⟨o, ho, _⟩ := (show ∀ b ∈ [e, it], ∃ o, s.heap.get? b = some o ∧ True from List.forall_mem_cons.mpr ⟨⟨_, st.1.choose_spec, trivial⟩, List.forall_mem_cons.mpr ⟨st.2.elim fun o q => ⟨o, q.1, trivial⟩, fun _ z => nomatch z⟩⟩) b hb
        exact Heap.lt_size ho
      rw [upd_ne (Nat.ne_of_lt (Nat.lt_of_lt_of_le low new))]
      exact (fp b hb).1
end
def iEnumT (K : PySem.W.Frag) (ta : TA) : TI := fun σ H R => ta σ H fun vs H1 => ∃ a xs, vs = [.ref a] ∧ SqT K H1 a xs ∧ R (IteT K a) H1
theorem pi_enumT {X : Cx} {arg : Expr} {ta : TA} {p pos tpos : Pos} {elts : List Expr} {kk : Nat} (hg : Gl X "enumerate") (hm : X.mg "enumerate" = none) (ha : PA X [arg] ta) (hs : starEach [arg] X.env = [(false, eval arg X.env)] := by rfl) :
    PI X (.Tuple elts kk tpos) (.Call (.Name "enumerate" p) [arg] [] pos) (iEnumT X.K ta) := by
  constructor
  intro pins s σ H R I h
  refine Call_ (ld_blt I hg hm boot_enumerate (PyProof.Rows.callWith_type1 (thn (ha.run pos pins s σ H _ I h) fun us s1 got => ?_) hs rfl))
  obtain ⟨_, H1, I1, rv, a, xs, rfl, sq, q⟩ := got
  obtain ⟨v, rfl, ru⟩ := rv.one
  obtain rfl : v = Value.ref a := ru
  obtain ⟨its, _, tup, _⟩ := I1.tuple sq
  have al : a < s1.heap.objs.size := tup.elim fun o q => Heap.lt_size q.1
  have size := Heap.size_push s1.heap { cls := .type "tuple_iterator", data := .fields #[.ref a, .int 0 0] }
  have last : IsEnum ((s1.heap.push { cls := .type "tuple_iterator", data := .fields #[.ref a, .int 0 0] }).push (enumObj s1.heap.objs.size)) (s1.heap.objs.size + 1) s1.heap.objs.size ((0 : Nat) : Int) .none := by
    rw [← size]; exact Heap.get?_push_size _ rfl
  refine enum_call (begins_tuple a its.toArray) tup (wpAny_pyIter_enum last ?_)
  refine ⟨s1.heap.objs.size + 1, [s1.heap.objs.size + 1, s1.heap.objs.size], EnumAt (s1.heap.objs.size + 1) s1.heap.objs.size a, IteT X.K a, H1, rfl, I1.kept (t' := s1.toks) fun _ _ z => Heap.get?_push_of_some _ (Heap.get?_push_of_some _ z),
    turn_enumT (Nat.succ_ne_self _) (Nat.ne_of_lt al) (Nat.ne_of_lt (Nat.lt_succ_of_lt al)), ⟨⟨_, last⟩, ⟨_, Heap.get?_push_of_some _ (Heap.get?_push_size _ rfl), rfl, rfl⟩⟩, fun b hb => ?_, q⟩
  have up : s1.heap.objs.size ≤ b := by
    have : b = s1.heap.objs.size + 1 ∨ b = s1.heap.objs.size := by simpa using hb
    exact this.elim (fun z => z ▸ Nat.le_succ _) fun z => z ▸ Nat.le_refl _
  exact I1.fpOk up (I1.hok.fresh up)
theorem wk_enumT {K : PySem.W.Frag} {F : Hp} {p : Addr} {xs : List A} {vs : List V} (h : SqT K F p vs) (r : RepL K F xs vs) : WkA K F (IteT K p) (enumA 0 xs) :=
  { goes := fun i H hi e => by
      rw [enumA_len] at hi
      have h1 : i < vs.length := by rw [r.len]; omega
      exact ⟨vs, vs[i], e.t h, by simp [h1]⟩
    stops := fun H e => ⟨vs, e.t h, by rw [enumA_len, r.len]⟩
    yields := fun i H x H' M F1 μ hi e rl yl => by
      obtain ⟨T, v, rfl, nT, rfl, g1⟩ := yl
      have h1 := g1 vs ((e.trans rl.sub).t h)
      obtain ⟨x1, k1, k2⟩ := r.rev h1
      obtain ⟨F2, ex, rl', rp⟩ := pair_new (x := .int (i : Nat)) rl nT (rep_int.mpr rfl) (k2.mono e)
      exact ⟨F2, _, ex, rl', by rw [enumA_get k1]; simp, rp⟩ }
section
variable {B : Bs} {X : Cx} {Γ : G} {μ : Mu} {R : List A → Mu → Prop} {e : Expr} {pos : Pos}
theorem wIt_enumT {p tpos : Pos} {elts : List Expr} {kk : Nat} (hm : X.mg "enumerate" = none) (h : wA B X [e] Γ μ fun zs μ1 => ∃ xs, zs = [.tup xs] ∧ R (enumA 0 xs) μ1) (hg : Gl X "enumerate" := by rfl) (hs : starEach [e] X.env = [(false, eval e X.env)] := by rfl) :
    wIt B X (.Tuple elts kk tpos) (.Call (.Name "enumerate" p) [e] [] pos) Γ μ R := fun σ M F H bo rs rl => rd_pi (pi_enumT hg hm pa_rd hs) (by
  refine (h σ M F H bo rs rl).imp fun us H1 ⟨zs, F1, μ1, e1, r1, p1, xs, ez, q1⟩ => ?_
  subst ez
  obtain ⟨v, rfl, h1⟩ := p1.one
  rw [rep_tup] at h1
  obtain ⟨p, vs, rfl, g1, g2⟩ := h1
  exact ⟨p, vs, rfl, r1.sub.t g1, _, F1, μ1, e1, r1, wk_enumT g1 g2, q1⟩)
end
end D

namespace D
open PySem PySem.Spec PyProof.Rows L2
theorem own_go {K : PySem.W.Frag} {μ : Mu} {M F H : Hp} {p : Addr} {xs : List A} {i : Nat} (r : Rel K μ M F H) (hp : μ p = some (.lst xs)) (hi : i < xs.length) : (Itl K p).go i H := by
  obtain ⟨_, o, h1, vs, rfl, h2⟩ := r.own p _ hp
  exact ⟨vs, vs[i]'(by rw [h2.len]; exact hi), .inl (.inl h1), by simp [h2.len, hi]⟩
theorem own_stop {K : PySem.W.Frag} {μ : Mu} {M F H : Hp} {p : Addr} {xs : List A} (r : Rel K μ M F H) (hp : μ p = some (.lst xs)) : (Itl K p).stop xs.length H := by
  obtain ⟨_, o, h1, vs, rfl, h2⟩ := r.own p _ hp
  exact ⟨vs, .inl (.inl h1), by rw [h2.len]; exact Nat.le_refl _⟩
theorem own_yld {K : PySem.W.Frag} {μ : Mu} {M F H H' : Hp} {p : Addr} {xs : List A} {i : Nat} {x : V} (r : Rel K μ M F H) (hp : μ p = some (.lst xs)) (hi : i < xs.length) (yl : (Itl K p).yld i H x H') : H' = H ∧ ∃ y, xs[i]? = some y ∧ Rep K F y x := by
  obtain ⟨_, o, h1, vs, rfl, h2⟩ := r.own p _ hp
  obtain ⟨rfl, g⟩ := yl
  obtain ⟨v, e1, e2⟩ := h2.get (List.getElem?_eq_getElem hi)
  have := g vs (.inl (.inl h1))
  rw [e1] at this; cases this
  exact ⟨rfl, _, List.getElem?_eq_getElem hi, e2⟩
section
variable {B : Bs} {X : Cx} {Γ : G} {μ : Mu} {Q : A → Mu → Prop} {Z : AD} {a e o i : Expr} {pos apos cpos : Pos} {tg : Expr} {body : List Stmt}
variable {elt iter c : Expr} {scope : Scope} {own : List (Str × Nat)} {ifs : List Expr}
theorem wS_forO (h : wE B X a Γ μ fun x μ1 => ∃ p xs, x = .loc p ∧ μ1 p = some (.lst xs) ∧ ∃ I : Nat → G → Mu → Prop, I 0 Γ μ1 ∧ (∀ i Γ' μ', I i Γ' μ' → μ' p = some (.lst xs)) ∧
      (∀ (i : Nat) y Γ' μ', xs[i]? = some y → I i Γ' μ' → wG B X tg y Γ' μ' fun Γ2 μ2 => wSs B X body Γ2 μ2 { nx := I (i + 1), rt := Z.rt, ct := I (i + 1), bk := Z.nx }) ∧ (∀ Γ' μ', I xs.length Γ' μ' → Z.nx Γ' μ'))
    (hp : PassesOwn (model X.prog X.w) X.A X.env X.xe := by first | exact PassesOwn.never | assumption) (hc : X.calm = true := by rfl) (hs : ∀ x, foldedSetIterable a X.env x = pure x := by intro _; rfl) : wS B X (.For tg a body [] pos) Γ μ Z :=
  wS_of (ps_for hp hc (pi_list pe_rd) pg_rd pss_rd hs) fun σ M F H bo rs r => by
  refine ((h σ M F H bo rs r).imp fun v H1 q => ?_)
  obtain ⟨x, F1, μ1, e1, r1, p1, p, ys, ex, hp1, I, i0, keepP, turn, done⟩ := q
  subst ex; rw [rep_loc] at p1; subst p1
  obtain ⟨_, ob, g1, vs, rfl, g2⟩ := r1.own p _ hp1
  refine ⟨p, rfl, ⟨vs, .inl (.inl g1)⟩, fun i m σ' H' => m = ys.length - i ∧ i ≤ ys.length ∧ QS X.K M F1 (I i) σ' H', ⟨ys.length, by simp, Nat.zero_le _, Γ, F1, μ1, .refl _, rs.mono e1, r1, i0⟩, ?_⟩
  rintro i m σ' H' ⟨rfl, hi, Γ', F', μ', e2, rs2, r2, q⟩
  have hpi := keepP i Γ' μ' q
  by_cases lt : i < ys.length
  · refine .inr ⟨own_go r2 hpi lt, fun σ3 H3 => QS X.K M F1 (I (i + 1)) σ3 H3, fun σ3 H3 q3 => ⟨ys.length - (i + 1), by omega, rfl, lt, q3⟩, fun x H3 yl => ?_⟩
    obtain ⟨rfl, y, hy, rp⟩ := own_yld r2 hpi lt yl
    refine (turn i y Γ' μ' hy q σ' M F' H3 x (bo.mono (e1.trans e2)) rs2 r2 rp).imp fun σ4 H4 q4 => ?_
    obtain ⟨Γ4, F4, μ4, e4, rs4, r4, q4⟩ := q4
    have eF : Ex F1 F4 := e2.trans e4
    exact (q4 σ4 M F4 H4 (bo.mono (e1.trans eF)) rs4 r4).imp (fun _ _ q => q.mono eF) (fun _ _ q => q.mono (e1.trans eF)) (fun _ _ q => q.mono (e1.trans eF)) (fun _ _ q => q.mono eF)
  · obtain rfl : i = ys.length := by omega
    exact .inl ⟨own_stop r2 hpi, Γ', F', μ', e1.trans e2, rs2, r2, done Γ' μ' q⟩
def lcAskO (B : Bs) (X : Cx) (scope : Scope) (tg iter elt : Expr) (ifs : List Expr) (vs : List Nat) (Γ : G) (μ : Mu) (Q : A → Mu → Prop) : Prop :=
  wE B X iter Γ μ fun x μ1 => ∃ q ys, x = .loc q ∧ μ1 q = some (.lst ys) ∧ ys.length ≤ sizeLine ∧ ∃ J : Nat → List A → Mu → Prop, J 0 [] μ1 ∧ (∀ i acc μ', J i acc μ' → μ' q = some (.lst ys)) ∧ lcTurns B X scope tg elt ifs vs Γ ys J ∧ ∀ acc μ', J ys.length acc μ' → ∀ p, μ' p = none → Q (.loc p) (μ'.upd p (.lst acc))
theorem lc_coreO {ifs : List Expr} (hi : ifs = [] ∨ ∃ c, ifs = [c]) (h : lcAskO B X scope tg iter elt ifs (own.map (·.2)) Γ μ Q) {σ : L2.St} {M F H : Hp} (bo : B.ok M F) (rs : RelS X.K Γ F σ) (r : Rel X.K μ M F H) :
    tLc (iList X.K (rdE X iter)) (bkG X scope tg) (bkT X scope ifs) (bkE X scope elt) (own.map (·.2)) σ H (QE X.K M F Q) := by
  generalize hvs : own.map (·.2) = vs at h
  refine (h σ M F H bo rs r).imp fun v H2 q => ?_
  obtain ⟨x, F1, μ1, e1, r1, p1, q0, ys, ex, hq1, hz, J, j0, keepP, turn, done⟩ := q
  subst ex; rw [rep_loc] at p1; subst p1
  obtain ⟨_, ob, g1, vs0, rfl, g2⟩ := r1.own q0 _ hq1
  refine ⟨q0, rfl, ⟨vs0, .inl (.inl g1)⟩, fun p np => ?_⟩
  obtain ⟨hM, rN⟩ := r1.frmNew (o := .lst []) np
  refine ⟨fun i m H' => m = ys.length - i ∧ i ≤ ys.length ∧ ∃ F' μ' acc ws, Ex F1 F' ∧ Rel X.K μ' (upd M p (.lst ws)) F' H' ∧ RepL X.K F' acc ws ∧ acc.length ≤ i ∧ J i acc μ', ⟨ys.length, by simp, Nat.zero_le _, F1, μ1, [], [], .refl _, rN, .nil, Nat.le_refl _, j0⟩, ?_⟩
  rintro i m H' ⟨rfl, hi', F', μ', acc, ws, e2, r2, ra, hl, q⟩
  have hpi := keepP i acc μ' q
  have rs' : RelS X.K (wipeA Γ vs) F' (wipe σ vs) := (wipeA_rel rs vs).mono (e1.trans e2)
  have bo' : B.ok (upd M p (.lst ws)) F' := (bo.up (.new hM)).mono (e1.trans e2)
  by_cases lt : i < ys.length
  · refine .inr ⟨own_go r2 hpi lt, fun H3 => ∃ F' μ' acc ws, Ex F1 F' ∧ Rel X.K μ' (upd M p (.lst ws)) F' H3 ∧ RepL X.K F' acc ws ∧ acc.length ≤ i + 1 ∧ J (i + 1) acc μ', fun H3 q3 => ⟨ys.length - (i + 1), by omega, rfl, lt, q3⟩, fun x H3 yl => ?_⟩
    obtain ⟨rfl, y, hy, rp⟩ := own_yld r2 hpi lt yl
    have e3 : Ex F' F' := .refl _
    have r3 := r2
    intro s0 H0 C cl fp'
    refine (turn i y acc μ' hy q s0 H0 C cl fp' (wipe σ vs) _ F' H3 x bo' rs' r3 rp).imp fun σ4 H4 q4 => ?_
    obtain ⟨w4, Γ4, F4, μ4, e4, rs4, r4, q4⟩ := q4
    rw [hvs] at *
    have w5 : wipe σ4 vs = wipe σ vs := w4.trans (wipe_wipe vs fun _ h => h)
    refine ⟨w5, ?_⟩
    have elem : ∀ {F5 : Hp} {μ5 : Mu} {H5 : Hp}, Ex F4 F5 → Rel X.K μ5 (upd M p (.lst ws)) F5 H5 → (∀ s0 H0 C cl fp, wE B (bk X scope s0 H0 C cl fp) elt Γ4 μ5 fun z μ6 => J (i + 1) (acc ++ [z]) μ6) →
        bkE X scope elt σ4 H5 fun y H6 => ∃ acc', H6 p = some (.lst acc') ∧ acc'.length < sizeLine ∧ ∃ F' μ' acc ws, Ex F1 F' ∧ Rel X.K μ' (upd M p (.lst ws)) F' (upd H6 p (.lst (acc' ++ [y]))) ∧ RepL X.K F' acc ws ∧ acc.length ≤ i + 1 ∧ J (i + 1) acc μ' := by
      intro F5 μ5 H5 e5 r5 hE s0 H0 C cl fp6
      refine (hE s0 H0 C cl fp6 σ4 _ F5 H5 (bo'.mono ((e3.trans e4).trans e5)) (rs4.mono e5) r5).imp fun z6 H6 ⟨z, F6, μ6, e6, r6, p6, q6⟩ => ?_
      obtain ⟨_, _, hp6⟩ := r6.frm p _ upd_same
      have ex := ((e3.trans e4).trans e5).trans e6
      refine ⟨ws, hp6, by rw [ra.len]; omega, F6, μ6, acc ++ [z], ws ++ [z6], e2.trans ex, r6.frmWrite, (ra.mono ex).snoc p6, by simp; omega, q6⟩
    rcases hi with rfl | ⟨c, rfl⟩
    · have k := elem (.refl _) r4 q4
      simp only [bkT, tYes, if_true]
      exact k
    · intro s0 H0 C cl fp6
      refine (q4 s0 H0 C cl fp6 σ4 _ F4 H4 (bo'.mono (e3.trans e4)) rs4 r4).imp fun k H5 ⟨F5, μ5, e5, r5, k1, k2⟩ => ?_
      cases k with
      | true => exact iteT (elem e5 r5 (k1 rfl))
      | false => exact iteF ⟨F5, μ5, acc, ws, (e2.trans (e3.trans e4)).trans e5, r5, ra.mono ((e3.trans e4).trans e5), by omega, k2 rfl⟩
  · obtain rfl : i = ys.length := by omega
    obtain ⟨nμ, rO⟩ := r2.frmOut (m := .lst acc) hM ⟨ws, rfl, ra⟩
    exact .inl ⟨own_stop r2 hpi, .loc p, F', _, e1.trans e2, rO, rep_loc.mpr rfl, done acc μ' q p nμ⟩
theorem wE_lcO (own : List (Str × Nat)) (h : lcAskO B X scope tg iter elt ifs (own.map (·.2)) Γ μ Q) (hN : X.N.Nodup) (ok : BlkOk X.N X.env.scope scope own) (hi : ifs = [] ∨ ∃ c, ifs = [c] := by first | exact .inl rfl | exact .inr ⟨_, rfl⟩) (hc : X.calm = true := by rfl) (hs : ∀ x, foldedSetIterable iter X.env x = pure x := by intro _; rfl) :
    wE B X (.ListComp elt [⟨tg, iter, ifs, 0⟩] scope pos) Γ μ Q :=
  wE_of (pe_lc (own := own) hc hN (pi_list pe_rd) ok (fun s0 H0 C cl fp => bkG_pg s0 H0 C cl fp) (bk_pts hi) (fun s0 H0 C cl fp => bkE_pe s0 H0 C cl fp) hs) fun σ M F H bo rs r => lc_coreO hi h bo rs r
theorem wS_setLcO (own : List (Str × Nat)) (i : Nat) {y : Str} {py spos : Pos} (h : lcAskO B X scope tg iter elt ifs (own.map (·.2)) Γ μ fun z μ1 => Z.nx (Γ.set i (some z)) μ1) (hN : X.N.Nodup) (ok : BlkOk X.N X.env.scope scope own)
    (hsw : swapsWith (.ListComp elt [⟨tg, iter, ifs, 0⟩] scope pos) (some (.Name y py)) spos.line X.env = pure true)
    (hi : ifs = [] ∨ ∃ c, ifs = [c] := by first | exact .inl rfl | exact .inr ⟨_, rfl⟩) (hc : X.calm = true := by rfl) (hy : X.N[i]? = some y := by rfl) (hyl : X.env.scope.names.lookup y = some .local := by rfl) (hs : ∀ x, foldedSetIterable iter X.env x = pure x := by intro _; rfl) :
    wS B X (.Assign [.Name y py] (.ListComp elt [⟨tg, iter, ifs, 0⟩] scope pos) spos) Γ μ Z :=
  wS_of (ps_setLc (own := own) hc hN hy hyl hsw (pi_list pe_rd) ok (fun s0 H0 C cl fp => bkG_pg s0 H0 C cl fp) (bk_pts hi) (fun s0 H0 C cl fp => bkE_pe s0 H0 C cl fp) hs) fun σ M F H bo rs r => by
  have k := lc_coreO hi h bo rs r
  refine k.imp fun v H2 q => ?_
  obtain ⟨q0, e0, k0, q⟩ := q
  refine ⟨q0, e0, k0, fun p np => ?_⟩
  obtain ⟨W, w0, turn⟩ := q p np
  refine ⟨W, w0, fun i' m H' w => ?_⟩
  rcases turn i' m H' w with ⟨st, q⟩ | q
  · refine .inl ⟨st, ?_⟩
    obtain ⟨x, F', μ', ex, rl, rp, q⟩ := q
    exact ⟨_, F', μ', ex, (rs.mono ex).set rp, rl, q⟩
  · exact .inr q
theorem lcMapO {vs : List Nat} (h : wE B X iter Γ μ fun x μ1 => ∃ q ys, x = .loc q ∧ μ1 q = some (.lst ys) ∧ ys.length ≤ sizeLine ∧ ∃ zs : List A, zs.length = ys.length ∧
      (∀ (i : Nat) y z, ys[i]? = some y → zs[i]? = some z → ∀ s0 H0 C cl fp, wGw B (bk X scope s0 H0 C cl fp) tg vs y (wipeA Γ vs) μ1 fun Γ2 μ2 => μ2 = μ1 ∧ ∀ s0 H0 C cl fp, vE B (bk X scope s0 H0 C cl fp) elt Γ2 μ1 z) ∧
      ∀ p : Addr, μ1 p = none → Q (.loc p) (μ1.upd p (.lst zs))) : lcAskO B X scope tg iter elt [] vs Γ μ Q := wE.imp h fun x μ1 ⟨q, ys, ex, hq, hz, zs, hl, turn, done⟩ => by
  refine ⟨q, ys, ex, hq, hz, fun i acc μ' => acc = zs.take i ∧ μ' = μ1, ⟨by simp, rfl⟩, fun i acc μ' ⟨_, e⟩ => by rw [e]; exact hq, ?_, ?_⟩
  · rintro i y acc _ hy ⟨ea, rfl⟩ s0 H0 C cl fp'
    have hi : i < zs.length := by rw [hl]; exact (List.getElem?_eq_some_iff.mp hy).1
    have t := turn i y zs[i] hy (List.getElem?_eq_getElem hi) s0 H0 C cl fp'
    intro σ3 M3 F3 H3 v3 bo3 rs3 r3 rp3
    refine (t σ3 M3 F3 H3 v3 bo3 rs3 r3 rp3).imp fun σ4 H4 ⟨w4, Γ4, F4, μ4, e4, rs4, r4, em, q4⟩ => ⟨w4, Γ4, F4, μ4, e4, rs4, r4, ?_⟩
    subst em
    intro s0 H0 C cl fp6
    refine (q4 s0 H0 C cl fp6).use ⟨?_, rfl⟩
    rw [ea, List.take_succ, List.getElem?_eq_getElem hi]; rfl
  · rintro acc _ ⟨ea, rfl⟩ p np
    rw [ea, ← hl, List.take_length]
    exact done p np
theorem lcPickO {vs : List Nat} (h : wE B X iter Γ μ fun x μ1 => ∃ q ys, x = .loc q ∧ μ1 q = some (.lst ys) ∧ ys.length ≤ sizeLine ∧ ∃ (ks : List Bool) (zs : List A), ks.length = ys.length ∧ zs.length = ys.length ∧
      (∀ (i : Nat) y k z, ys[i]? = some y → ks[i]? = some k → zs[i]? = some z → ∀ s0 H0 C cl fp, wGw B (bk X scope s0 H0 C cl fp) tg vs y (wipeA Γ vs) μ1 fun Γ2 μ2 => μ2 = μ1 ∧ (∀ s0 H0 C cl fp, vT B (bk X scope s0 H0 C cl fp) c Γ2 μ1 k) ∧ (k = true → ∀ s0 H0 C cl fp, vE B (bk X scope s0 H0 C cl fp) elt Γ2 μ1 z)) ∧
      ∀ p : Addr, μ1 p = none → Q (.loc p) (μ1.upd p (.lst (pickA ks zs)))) : lcAskO B X scope tg iter elt [c] vs Γ μ Q := wE.imp h fun x μ1 ⟨q, ys, ex, hq, hz, ks, zs, hk, hl, turn, done⟩ => by
  refine ⟨q, ys, ex, hq, hz, fun i acc μ' => acc = pickA (ks.take i) (zs.take i) ∧ μ' = μ1, ⟨by simp [pickA], rfl⟩, fun i acc μ' ⟨_, e⟩ => by rw [e]; exact hq, ?_, ?_⟩
  · rintro i y acc _ hy ⟨ea, rfl⟩ s0 H0 C cl fp'
    have hy' := (List.getElem?_eq_some_iff.mp hy).1
    have hi : i < zs.length := by rw [hl]; exact hy'
    have hi' : i < ks.length := by rw [hk]; exact hy'
    have t := turn i y ks[i] zs[i] hy (List.getElem?_eq_getElem hi') (List.getElem?_eq_getElem hi) s0 H0 C cl fp'
    have en : pickA (ks.take (i + 1)) (zs.take (i + 1)) = acc ++ (if ks[i] then [zs[i]] else []) := by
      rw [ea, List.take_succ, List.take_succ, List.getElem?_eq_getElem hi, List.getElem?_eq_getElem hi']
      exact pickA_snoc _ _ _ _ (by simp; omega)
    intro σ3 M3 F3 H3 v3 bo3 rs3 r3 rp3
    refine (t σ3 M3 F3 H3 v3 bo3 rs3 r3 rp3).imp fun σ4 H4 ⟨w4, Γ4, F4, μ4, e4, rs4, r4, em, q4, q5⟩ => ⟨w4, Γ4, F4, μ4, e4, rs4, r4, ?_⟩
    subst em
    intro s0 H0 C cl fp6
    refine (q4 s0 H0 C cl fp6).use ⟨fun kt s0 H0 C cl fp7 => (q5 kt s0 H0 C cl fp7).use ⟨?_, rfl⟩, fun kf => ⟨?_, rfl⟩⟩
    · rw [en, kt]; rfl
    · rw [en, kf]; simp
  · rintro acc _ ⟨ea, rfl⟩ p np
    rw [ea, ← hl, List.take_length, hl, ← hk, List.take_length]
    exact done p np
theorem wE_lcFO (own : List (Str × Nat)) (h : wE B X iter Γ μ fun x μ1 => ∃ q ys, x = .loc q ∧ μ1 q = some (.lst ys) ∧ ys.length ≤ sizeLine ∧ ∃ zs : List A, zs.length = ys.length ∧
      (∀ (i : Nat) y z, ys[i]? = some y → zs[i]? = some z → ∀ s0 H0 C cl fp, wGw B (bk X scope s0 H0 C cl fp) tg (own.map (·.2)) y (wipeA Γ (own.map (·.2))) μ1 fun Γ2 μ2 => μ2 = μ1 ∧ ∀ s0 H0 C cl fp, vE B (bk X scope s0 H0 C cl fp) elt Γ2 μ1 z) ∧ Q (.lst zs) μ1)
    (hN : X.N.Nodup) (ok : BlkOk X.N X.env.scope scope own) (hc : X.calm = true := by rfl) (hs : ∀ x, foldedSetIterable iter X.env x = pure x := by intro _; rfl) : wE B X (.ListComp elt [⟨tg, iter, [], 0⟩] scope pos) Γ μ Q :=
  wE_frz (wE_lcO own (lcMapO (wE.imp h fun x μ1 ⟨q, ys, ex, hq, hz, zs, hl, turn, done⟩ => ⟨q, ys, ex, hq, hz, zs, hl, turn, fun p np => ⟨p, zs, rfl, Mu.upd_same, by rw [Mu.del_upd np]; exact done⟩⟩)) hN ok (.inl rfl) hc hs)
theorem wE_lcPFO (own : List (Str × Nat)) (h : wE B X iter Γ μ fun x μ1 => ∃ q ys, x = .loc q ∧ μ1 q = some (.lst ys) ∧ ys.length ≤ sizeLine ∧ ∃ (ks : List Bool) (zs : List A), ks.length = ys.length ∧ zs.length = ys.length ∧
      (∀ (i : Nat) y k z, ys[i]? = some y → ks[i]? = some k → zs[i]? = some z → ∀ s0 H0 C cl fp, wGw B (bk X scope s0 H0 C cl fp) tg (own.map (·.2)) y (wipeA Γ (own.map (·.2))) μ1 fun Γ2 μ2 => μ2 = μ1 ∧ (∀ s0 H0 C cl fp, vT B (bk X scope s0 H0 C cl fp) c Γ2 μ1 k) ∧ (k = true → ∀ s0 H0 C cl fp, vE B (bk X scope s0 H0 C cl fp) elt Γ2 μ1 z)) ∧ Q (.lst (pickA ks zs)) μ1)
    (hN : X.N.Nodup) (ok : BlkOk X.N X.env.scope scope own) (hc : X.calm = true := by rfl) (hs : ∀ x, foldedSetIterable iter X.env x = pure x := by intro _; rfl) : wE B X (.ListComp elt [⟨tg, iter, [c], 0⟩] scope pos) Γ μ Q :=
  wE_frz (wE_lcO own (lcPickO (wE.imp h fun x μ1 ⟨q, ys, ex, hq, hz, ks, zs, hk, hl, turn, done⟩ => ⟨q, ys, ex, hq, hz, ks, zs, hk, hl, turn, fun p np => ⟨p, _, rfl, Mu.upd_same, by rw [Mu.del_upd np]; exact done⟩⟩)) hN ok (.inr ⟨_, rfl⟩) hc hs)
theorem wS_setLcFO (own : List (Str × Nat)) (i : Nat) {y : Str} {py spos : Pos} (h : wE B X iter Γ μ fun x μ1 => ∃ q ys, x = .loc q ∧ μ1 q = some (.lst ys) ∧ ys.length ≤ sizeLine ∧ ∃ zs : List A, zs.length = ys.length ∧
      (∀ (i : Nat) y z, ys[i]? = some y → zs[i]? = some z → ∀ s0 H0 C cl fp, wGw B (bk X scope s0 H0 C cl fp) tg (own.map (·.2)) y (wipeA Γ (own.map (·.2))) μ1 fun Γ2 μ2 => μ2 = μ1 ∧ ∀ s0 H0 C cl fp, vE B (bk X scope s0 H0 C cl fp) elt Γ2 μ1 z) ∧ Z.nx (Γ.set i (some (.lst zs))) μ1)
    (hN : X.N.Nodup) (ok : BlkOk X.N X.env.scope scope own) (hsw : swapsWith (.ListComp elt [⟨tg, iter, [], 0⟩] scope pos) (some (.Name y py)) spos.line X.env = pure true) (hl : i < Γ.length := by exact Nat.le_of_ble_eq_true rfl)
    (hc : X.calm = true := by rfl) (hy : X.N[i]? = some y := by rfl) (hyl : X.env.scope.names.lookup y = some .local := by rfl) (hs : ∀ x, foldedSetIterable iter X.env x = pure x := by intro _; rfl) :
    wS B X (.Assign [.Name y py] (.ListComp elt [⟨tg, iter, [], 0⟩] scope pos) spos) Γ μ Z :=
  wS_frzNx i (wS_setLcO own i (lcMapO (wE.imp h fun x μ1 ⟨q, ys, ex, hq, hz, zs, hzl, turn, done⟩ => ⟨q, ys, ex, hq, hz, zs, hzl, turn, fun p np => ⟨p, zs, by rw [List.getElem?_set_self hl], Mu.upd_same, by rw [Mu.del_upd np, List.set_set]; exact done⟩⟩)) hN ok hsw (.inl rfl) hc hy hyl hs)
theorem wS_setLcPFO (own : List (Str × Nat)) (i : Nat) {y : Str} {py spos : Pos} (h : wE B X iter Γ μ fun x μ1 => ∃ q ys, x = .loc q ∧ μ1 q = some (.lst ys) ∧ ys.length ≤ sizeLine ∧ ∃ (ks : List Bool) (zs : List A), ks.length = ys.length ∧ zs.length = ys.length ∧
      (∀ (i : Nat) y k z, ys[i]? = some y → ks[i]? = some k → zs[i]? = some z → ∀ s0 H0 C cl fp, wGw B (bk X scope s0 H0 C cl fp) tg (own.map (·.2)) y (wipeA Γ (own.map (·.2))) μ1 fun Γ2 μ2 => μ2 = μ1 ∧ (∀ s0 H0 C cl fp, vT B (bk X scope s0 H0 C cl fp) c Γ2 μ1 k) ∧ (k = true → ∀ s0 H0 C cl fp, vE B (bk X scope s0 H0 C cl fp) elt Γ2 μ1 z)) ∧ Z.nx (Γ.set i (some (.lst (pickA ks zs)))) μ1)
    (hN : X.N.Nodup) (ok : BlkOk X.N X.env.scope scope own) (hsw : swapsWith (.ListComp elt [⟨tg, iter, [c], 0⟩] scope pos) (some (.Name y py)) spos.line X.env = pure true) (hl : i < Γ.length := by exact Nat.le_of_ble_eq_true rfl)
    (hc : X.calm = true := by rfl) (hy : X.N[i]? = some y := by rfl) (hyl : X.env.scope.names.lookup y = some .local := by rfl) (hs : ∀ x, foldedSetIterable iter X.env x = pure x := by intro _; rfl) :
    wS B X (.Assign [.Name y py] (.ListComp elt [⟨tg, iter, [c], 0⟩] scope pos) spos) Γ μ Z :=
  wS_frzNx i (wS_setLcO own i (lcPickO (wE.imp h fun x μ1 ⟨q, ys, ex, hq, hz, ks, zs, hk, hzl, turn, done⟩ => ⟨q, ys, ex, hq, hz, ks, zs, hk, hzl, turn, fun p np => ⟨p, _, by rw [List.getElem?_set_self hl], Mu.upd_same, by rw [Mu.del_upd np, List.set_set]; exact done⟩⟩)) hN ok hsw (.inr ⟨_, rfl⟩) hc hy hyl hs)
end
end D

namespace D
open PySem PySem.Spec PyProof.Rows L2
theorem log2_lt {i : Int} {k : Nat} (h : i.natAbs < 2 ^ k) (hk : 0 < k) : i.natAbs.log2 < k := by
  by_cases z : i.natAbs = 0
  · rw [z]; simpa using hk
  · exact (Nat.log2_lt z).mpr h
theorem cutA_mem {xs : List A} {lo hi : Option Int} {x : A} (h : x ∈ cutA xs lo hi) : x ∈ xs := by
  unfold cutA at h
  exact List.mem_of_mem_drop (List.mem_of_mem_take h)
theorem cutA_len (xs : List A) (lo hi : Option Int) : (cutA xs lo hi).length ≤ xs.length := by
  unfold cutA; rw [List.length_take, List.length_drop]; omega
theorem cutA_take (xs : List A) {k : Int} (h : 0 ≤ k) : cutA xs none (some k) = xs.take k.toNat := by
  unfold cutA
  have e : HT.sIx xs.length xs.length (some k) = min k.toNat xs.length := by
    have := HT.sIx_nat xs.length xs.length k.toNat
    rwa [show ((k.toNat : Nat) : Int) = k by omega] at this
  rw [e]
  show (xs.drop 0).take (min k.toNat xs.length - 0) = _
  rw [List.drop_zero, Nat.sub_zero]
  rcases Nat.le_total k.toNat xs.length with h1 | h1
  · rw [Nat.min_eq_left h1]
  · rw [Nat.min_eq_right h1, List.take_of_length_le h1, List.take_of_length_le (Nat.le_refl _)]
theorem cutA_drop (xs : List A) {k : Int} (h : 0 ≤ k) : cutA xs (some k) none = xs.drop k.toNat := by
  unfold cutA
  have e : HT.sIx xs.length 0 (some k) = min k.toNat xs.length := by
    have := HT.sIx_nat xs.length 0 k.toNat
    rwa [show ((k.toNat : Nat) : Int) = k by omega] at this
  rw [e]
  show (xs.drop (min k.toNat xs.length)).take (xs.length - min k.toNat xs.length) = _
  rcases Nat.le_total k.toNat xs.length with h1 | h1
  · rw [Nat.min_eq_left h1, List.take_of_length_le (by simp)]
  · rw [Nat.min_eq_right h1, List.drop_of_length_le (Nat.le_refl _), List.drop_of_length_le h1]; simp
theorem atI_mem {xs : List A} {i : Int} (h0 : 0 ≤ i) (h1 : i < xs.length) : ∃ y ∈ xs, atI xs i = some y := by
  have h : i.toNat < xs.length := by omega
  exact ⟨xs[i.toNat], List.getElem_mem h, atI_pos (List.getElem?_eq_getElem h) h0⟩
theorem wI_lstEx {X : Cx} {μ : Mu} {Q : A → Mu → Prop} {xs : List A} {i : Int} (h0 : 0 ≤ i) (h1 : i < xs.length) (q : ∀ y ∈ xs, Q y μ) : wI X (.lst xs) (.int i) μ Q := by
  obtain ⟨y, hy, e⟩ := atI_mem h0 h1
  exact wI_lst e (q y hy)
theorem wI_tupEx {X : Cx} {μ : Mu} {Q : A → Mu → Prop} {xs : List A} {i : Int} (h0 : 0 ≤ i) (h1 : i < xs.length) (q : ∀ y ∈ xs, Q y μ) : wI X (.tup xs) (.int i) μ Q := by
  obtain ⟨y, hy, e⟩ := atI_mem h0 h1
  exact wI_tup e (q y hy)
def Ke (S : List Addr) (μ μ' : Mu) : Prop := ∀ q o, q ∉ S → μ q = some o → μ' q = some o
section
variable {S T : List Addr} {μ μ1 μ2 : Mu} {p : Addr} {o : MO}
theorem Ke.refl (S : List Addr) (μ : Mu) : Ke S μ μ := fun _ _ _ h => h
theorem Ke.trans (a : Ke S μ μ1) (b : Ke S μ1 μ2) : Ke S μ μ2 := fun q o h e => b q o h (a q o h e)
theorem Ke.mono (a : Ke S μ μ1) (h : ∀ x ∈ S, x ∈ T) : Ke T μ μ1 := fun q o n e => a q o (fun z => n (h q z)) e
theorem Ke.upd (h : p ∈ S) : Ke S μ (μ.upd p o) := fun q u n e => by
  have hq : q ≠ p := by rintro rfl; exact n h
  rw [Mu.upd_ne hq]; exact e
theorem Ke.put (a : Ke S μ μ1) (h : p ∈ S) : Ke S μ (μ1.upd p o) := a.trans (.upd h)
theorem Ke.sub (s : Sub μ μ1) : Ke S μ μ1 := fun q o _ e => s q o e
theorem Ke.new (n : μ p = none) (a : Ke (p :: S) (μ.upd p o) μ1) : Ke S μ μ1 := fun q u h e => by
  have hq : q ≠ p := fun z => by rw [z, n] at e; cases e
  exact a q u (by simp [hq, h]) (by rw [Mu.upd_ne hq]; exact e)
theorem Ke.drop (n : μ p = none) (a : Ke (p :: S) μ μ1) : Ke S μ μ1 := fun q u h e => by
  have hq : q ≠ p := fun z => by rw [z, n] at e; cases e
  exact a q u (by simp [hq, h]) e
theorem Ke.all (h : ∀ p ∈ S, μ p = none) (a : Ke S μ μ1) : Sub μ μ1 := fun q o e => a q o (fun z => by rw [h q z] at e; cases e) e
end
abbrev Nm := List (Str × Int)
def putI (N : Nm) (w : Str) (n : Int) : Nm := if N.any (fun p => decide (p.1 = w)) = true then N.map (fun p => if p.1 = w then (p.1, n) else p) else N ++ [(w, n)]
theorem putA_PkI (N : Nm) (w : Str) (n : Int) : putA (Pk N) (.inr w) (.int n) = Pk (putI N w n) := by
  unfold putA putI
  have e : ((Pk N).any fun kv => decide (kv.1 = (.inr w : Key))) = N.any fun p => decide (p.1 = w) := by
    rw [List.any_map]
    congr 1
    funext p
    simp
  rw [e]
  split
  · show (N.map fun p => ((.inr p.1 : Key), A.int p.2)).map _ = (N.map _).map _
    rw [List.map_map, List.map_map]
    refine List.map_congr_left fun p _ => ?_
    simp only [Function.comp, Sum.inr.injEq]
    split <;> rfl
  · simp
theorem valI_put_same (N : Nm) (w : Str) (n : Int) : valI (putI N w n) w = some n := by
  unfold putI
  split
  · rename_i h
    obtain ⟨p, hp, e⟩ := List.any_eq_true.mp h
    clear h
    unfold valI
    induction N with
    | nil => cases hp
    | cons a N ih =>
      rw [List.map_cons, List.find?_cons]
      by_cases ha : a.1 = w
      · rw [if_pos ha]; simp [ha]
      · rw [if_neg ha]
        simp only [ha, decide_false]
        rcases List.mem_cons.mp hp with rfl | hp
        · exact absurd (of_decide_eq_true e) ha
        · exact ih hp
  · rename_i h
    have h2 : ∀ p ∈ N, ¬ p.1 = w := fun p hp z => h (List.any_eq_true.mpr ⟨p, hp, by simp [z]⟩)
    unfold valI
    rw [List.find?_append, List.find?_eq_none.mpr (fun p hp => by simpa using h2 p hp)]
    simp
theorem valI_put_ne (N : Nm) {w x : Str} (n : Int) (h : x ≠ w) : valI (putI N w n) x = valI N x := by
  unfold putI
  split
  · rename_i h0
    clear h0
    unfold valI
    induction N with
    | nil => rfl
    | cons a N ih =>
      rw [List.map_cons, List.find?_cons, List.find?_cons]
      by_cases ha : a.1 = w
      · rw [if_pos ha]
        have h3 : ¬ a.1 = x := fun z => h (z.symm.trans ha)
        simp only [h3, decide_false]
        exact ih
      · rw [if_neg ha]
        by_cases hx : a.1 = x
        · simp [hx]
        · simp only [hx, decide_false]
          exact ih
  · unfold valI
    rw [List.find?_append]
    cases e : N.find? (fun kv => decide (kv.1 = x)) with
    | some p => simp
    | none => simp [Ne.symm h]
theorem putI_len (N : Nm) (w : Str) (n : Int) : (putI N w n).length ≤ N.length + 1 := by
  unfold putI
  split
  · rw [List.length_map]; omega
  · rw [List.length_append]; simp
end D

set_option pp.maxSteps 300
namespace D
open PySem PySem.Spec PyProof.Rows L2
local macro_rules | `(tactic| walk_at "mul") => `(tactic| first | refine wO_mul (mulR (by first | decide | omega) (by first | decide | omega)) ?_ | refine wO_mul (mulL (by first | decide | omega) (by first | decide | omega)) ?_)
local macro_rules | `(tactic| walk_at "mod") => `(tactic| refine wO_mod (by first | decide | omega) ?_)
local macro_rules | `(tactic| walk_at "fdiv") => `(tactic| refine wO_fdiv (by first | decide | omega) (divS (by first | decide | omega)) ?_)
local macro_rules | `(tactic| walk_at "ix") => `(tactic| first | refine wI_tup (by rfl) ?_ | refine wI_lst (by rfl) ?_)
local macro_rules | `(tactic| walk_at "sl") => `(tactic| first | refine wSl_tup ?_ | refine wSl_lstF ?_)
local macro_rules | `(tactic| walk_at "obj") => `(tactic| refine ⟨_, _, _, rfl, by assumption, rfl, ?_⟩)
local macro_rules | `(tactic| walk_at "len") => `(tactic| first | refine wC_len (.tup _) ?_ | refine wC_len (.lst _) ?_ | refine wC_len (.loc (by assumption)) ?_)
section
variable {P : Program} {w : World} {mg : Str → Option Value} {base : Heap} {K : PySem.W.Frag} {CL CP CTL CTe CPr CPo CNV CTG CCo CS pT : Addr} {k : Nat}
abbrev s__law_odd : Stmt := topS 58
abbrev N__law_odd : List Str := ["_law_m", "_law_thing_here", "_law_at", "_law_ways", "_law_some"]
theorem sc__law_odd : FnScope N__law_odd ["_law_m", "_law_thing_here"] (defScope s__law_odd) := ⟨rfl, rfl, rfl, by decide +kernel, rfl, by decide +kernel, by decide +kernel⟩
theorem cutA_one (xs : List D.A) {r : Nat} (h : r < xs.length) : cutA xs (some (r : Int)) (some ((r : Int) + 1)) = (xs.drop r).take 1 := by
  have e1 : HT.sIx xs.length 0 (some (r : Int)) = r := by
    have := HT.sIx_nat xs.length 0 r
    rw [this]; omega
  have e2 : HT.sIx xs.length xs.length (some ((r : Int) + 1)) = r + 1 := by
    have := HT.sIx_nat xs.length xs.length (r + 1)
    rw [show (((r + 1 : Nat)) : Int) = (r : Int) + 1 by omega] at this
    rw [this]; omega
  unfold cutA
  rw [e1, e2, show r + 1 - r = 1 by omega]
theorem Lx.zs {m l : Addr} {c : Nat} {rm : Int} {mo : Option (List Str)} {zs : List Addr} {μ : Mu} (h : Lx m l c rm mo μ) (z : Zs μ zs) : m ∉ zs ∧ l ∉ zs := by
  obtain ⟨⟨fs, left, at_, g1, g2, _⟩, _⟩ := h
  exact ⟨fun e => by have h := z m e; rw [g1] at h; simp at h, fun e => by have h := z l e; rw [g2] at h; simp at h⟩
theorem Zs.ls2 {m l : Addr} {zs : List Addr} {μ μ' : Mu} (z : Zs μ zs) (h1 : m ∉ zs) (h2 : l ∉ zs) (s : Ls m l μ μ') : Zs μ' zs := fun p hp => s p _ (fun e => h1 (by rw [← e]; exact hp)) (fun e => h2 (by rw [← e]; exact hp)) (z p hp)
def c__law_odd : AC := fun xs μ Q _ => ∃ (m l : Addr) (c : Nat) (rm : Int) (mo : Option (List Str)) (zs : List Addr) (x : D.A), xs = [.loc m, x] ∧ Lx m l c rm mo μ ∧ c < 2 ^ 39 ∧ gdA zs x ∧ Zs μ zs ∧ (tupOf x).length ≤ 900 ∧
  ∀ (zs2 : List Addr) (y : D.A) (c2 : Nat) μ', OddR zs2 x y → (∀ p ∈ zs, p ∈ zs2) → Zs μ' zs2 → c2 ≤ c + 3 → Lx m l c2 rm mo μ' → Ls m l μ μ' → Q y μ'
theorem ok__law_odd {n : Nat}  {f : Addr} {fd : FuncData} (TX : Txt K mg w CL CP CTL CTe CPr CPo CNV CTG CCo CS pT) (C__law_draw : Cal P w K mg base n "_law_draw" c__law_draw) (F : Fun K "_law_odd" "_law_odd" s__law_odd f fd) : FnD P w K mg base CX0 (n + 1) f fd ["_law_m", "_law_thing_here"] c__law_odd := by
  refine fnD F sc__law_odd (fun xs μ Q E hc => by obtain ⟨m, l, c, rm, mo, zs, x, rfl, lx, hc0, gd, hz, hl9, q⟩ := hc; rfl) (fun cdv Ao outer s H E xs μ Q E0 ar hc => ?_)
  obtain ⟨m, l, c, rm, mo, zs, x, rfl, lx, hc0, gd, hz, hl9, q⟩ := hc
  obtain ⟨nm, t1, t2, _⟩ := gd_ty gd hz
  obtain ⟨mz, lz⟩ := lx.zs hz
  have nd := sc__law_odd.nd
  refine wSs_cons (wS_if ?_)
  refine wT.imp (QB := fun k μ' => ∃ c1, c1 ≤ c + 1 ∧ Lx m l c1 rm mo μ' ∧ Ls m l μ μ' ∧ (k = true → ∃ ys, x = .tup ys ∧ 0 < ys.length)) ?_ (fun k μ' hq => ?_)
  refine wT_chain (wW_and (wT_val (wE_callB (id := "isinstance") TX.b_isinstance (by decide +kernel) (wA_cons (wE_name 1 rfl (wA_cons (wE_type (n := "tuple") TX.b_tuple (by decide +kernel) (wA_nil ?_))))))))
  refine wC_isi t1 t2 ?_
  refine ⟨_, rfl, ?_⟩
  refine and_flip (fun hk => ?_) (fun hk => ?_)
  · exact ⟨c, by omega, lx, Ls.refl _, fun z => nomatch z⟩
  obtain ⟨ys, rfl⟩ : ∃ ys, x = .tup ys := ⟨_, tup_eq hk⟩
  refine wW_and (wT_cmp (wE_name 1 rfl (wE_tup (wA_nil ⟨by show 0 ≤ sizeLine; decide, ?_⟩))))
  refine wO_neNone ar.u64 ?_
  refine ⟨_, rfl, ?_⟩
  refine and_flip (fun hk => ?_) (fun hk => ?_)
  · exact ⟨c, by omega, lx, Ls.refl _, fun z => nomatch z⟩
  have pos : 0 < ys.length := List.length_pos_iff.mpr fun e => by rw [e] at hk; cases hk
  refine wW_and1 (wT_cmp (wE_cal C__law_draw ar (by omega) (wA_cons (wE_name 0 rfl (wA_cons (wE_int (wA_nil ?_)))))))
  refine ⟨m, l, 2, c, _, _, rfl, by decide, by decide, lx, by omega, fun r1 μ1 a0 a1 lx1 ls1 => ?_⟩
  refine wE_int ?_
  refine wO_eqI ?_
  refine ⟨_, rfl, ?_⟩
  exact ⟨c + 1, by omega, lx1, ls1, fun _ => ⟨ys, rfl, pos⟩⟩
  obtain ⟨c1, hc1, lx1, ls1, hq2⟩ := hq
  have z1 := hz.ls2 mz lz ls1
  refine ⟨fun hk => ?_, fun hk => ?_⟩
  refine wSs_cons (wS_set 2 (wE_cal C__law_draw ar (by omega) (wA_cons (wE_name 0 rfl (wA_cons (wE_callB (id := "len") TX.b_len (by decide +kernel) (wA_cons (wE_name 1 rfl (wA_nil ?_)))))))) nd)
  obtain ⟨ys, rfl, pos⟩ := hq2 hk
  have hl9 : ys.length ≤ 900 := hl9
  refine wC_len (.tup _) ?_
  refine wA_nil ?_
  refine ⟨m, l, ys.length, c1, _, _, rfl, by omega, by omega, lx1, by omega, fun r μ2 r0 r1 lx2 ls2 => ?_⟩
  obtain ⟨r, rfl⟩ : ∃ n : Nat, r = n := ⟨r.toNat, by omega⟩
  refine wSs_cons (wS_set 3 (wE_lstF (wA_cons (wE_bin (wE_slice (wE_name 1 rfl (wE_name 2 rfl ⟨_, rfl, ?_⟩)))))) nd)
  walk_at "sl"
  refine wE_slice (wE_name 1 rfl (wE_bin (wE_name 2 rfl (wE_int ?_))))
  refine wO_add ?_
  refine ⟨_, rfl, ?_⟩
  walk_at "sl"
  refine wO_catT ?_ ?_
  · exact szOk (by have := cutA_len ys none (some (r : Int)); have := cutA_len ys (some ((r : Int) + 1)) none; omega)
  refine wA_cons (wE_bin (wE_bin (wE_slice (wE_name 1 rfl (wE_name 2 rfl ⟨_, rfl, ?_⟩)))))
  walk_at "sl"
  refine wE_slice (wE_name 1 rfl (wE_name 2 rfl ⟨_, rfl, (wE_bin (wE_name 2 rfl (wE_int ?_)))⟩))
  refine wO_add ?_
  refine ⟨_, rfl, ?_⟩
  walk_at "sl"
  refine wO_catT ?_ ?_
  · exact szOk (by have := cutA_len ys none (some (r : Int)); have := cutA_len ys (some (r : Int)) (some ((r : Int) + 1)); omega)
  refine wE_slice (wE_name 1 rfl (wE_name 2 rfl ⟨_, rfl, ?_⟩))
  walk_at "sl"
  refine wO_catT ?_ ?_
  · exact szOk (by rw [List.length_append]; have := cutA_len ys none (some (r : Int)); have := cutA_len ys (some (r : Int)) (some ((r : Int) + 1)); have := cutA_len ys (some (r : Int)) none; omega)
  refine wA_cons (wE_revT (wE_name 1 rfl ⟨_, rfl, (wA_cons (wE_callTy (T := "list") TX.b_list (by decide +kernel) (wA_cons (wE_name 1 rfl (wA_nil ?_)))))⟩))
  refine wC_listF (.tup _) ?_
  refine wA_nil ⟨by show 4 ≤ sizeLine; decide, ?_⟩
  refine wSs_cons (wS_ret (wE_ix (wE_bin (wE_name 3 rfl (wE_lstF (wA_cons (wE_ix (wE_name 1 rfl (wE_name 2 rfl ?_)))))))))
  refine wI_tup (tup_at (i := r) (by omega)) ?_
  refine wA_cons (wE_bin (wE_name 1 rfl (wE_tup (wA_cons (wE_non (wA_nil ⟨by show 1 ≤ sizeLine; decide, ?_⟩))))))
  refine wO_catT ?_ ?_
  · exact szOk (by simp only [List.length_cons, List.length_nil]; omega)
  refine wA_nil ⟨by show 2 ≤ sizeLine; decide, ?_⟩
  refine wO_catF (.lst _) (.lst _) (szOk (by simp only [List.length_append, List.length_cons, List.length_nil]; omega)) ?_
  refine wE_cal C__law_draw ar (by omega) (wA_cons (wE_name 0 rfl (wA_cons (wE_int (wA_nil ?_)))))
  refine ⟨m, l, 6, c1 + 1, _, _, rfl, by decide, by decide, lx2, by omega, fun w μ3 w0 w1 lx3 ls3 => ?_⟩
  refine wI_lstEx w0 (by simp only [List.length_append, List.length_cons, List.length_nil]; omega) (fun y hy => ?_)
  have fin : OddR zs (.tup ys) y → Q y μ3 := fun h => q zs y (c1 + 1 + 1) μ3 h (fun _ h => h) (hz.ls2 mz lz ((ls1.trans ls2).trans ls3)) (by omega) lx3 ((ls1.trans ls2).trans ls3)
  have e1 : cutA ys none (some (r : Int)) = ys.take r := by rw [cutA_take _ (by omega)]; rfl
  have e2 : cutA ys (some (r : Int)) none = ys.drop r := by rw [cutA_drop _ (by omega)]; rfl
  have e3 : cutA ys (some ((r : Int) + 1)) none = ys.drop (r + 1) := by rw [cutA_drop _ (by omega)]; rfl
  rw [e1, e2, e3, cutA_one ys (by omega)] at hy
  simp only [List.cons_append, List.nil_append, List.mem_cons, List.not_mem_nil, or_false] at hy
  rcases hy with rfl | rfl | rfl | rfl | rfl | rfl
  · exact fin (.cut ys r)
  · exact fin (.dup ys r)
  · exact fin (.rev ys)
  · exact fin (.lst ys)
  · exact fin (.sub ys _ (by rw [List.getD_eq_getElem?_getD, List.getElem?_eq_getElem (by omega)]; exact List.getElem_mem _))
  · exact fin (.more ys)
  refine wSs_nil ?_
  refine wSs_cons (wS_set 4 (wE_lstF (wA_cons (wE_non (wA_cons (wE_bl (wA_cons (wE_bl (wA_cons (wE_int (wA_cons (wE_int (wA_cons (wE_neg (wE_int ⟨_, rfl, (wA_cons (wE_int (wA_cons (wE_neg (wE_int ⟨_, rfl, (wA_cons (wE_int (wA_cons (wE_neg (wE_int ⟨_, rfl, (wA_cons (wE_int (wA_cons (wE_int (wA_cons (wE_str (wA_cons (wE_str (wA_cons (wE_str (wA_cons (wE_str (wA_cons (wE_str (wA_cons (wE_str (wA_cons (wE_str (wA_nil ⟨by show 19 ≤ sizeLine; decide, (wSs_cons (wS_set 4 (wE_bin (wE_name 4 rfl (wE_lstF (wA_cons (wE_str (wA_cons (wE_str (wA_cons (wE_str (wA_cons (wE_str (wA_cons (wE_str (wA_cons (wE_str (wA_cons (wE_str (wA_cons (wE_tup (wA_nil ⟨by show 0 ≤ sizeLine; decide, (wA_cons (wE_tup (wA_cons (wE_int (wA_cons (wE_int (wA_nil ⟨by show 2 ≤ sizeLine; decide, (wA_cons (wE_tup (wA_cons (wE_int (wA_cons (wE_int (wA_nil ⟨by show 2 ≤ sizeLine; decide, (wA_cons (wE_tup (wA_cons (wE_int (wA_cons (wE_int (wA_nil ⟨by show 2 ≤ sizeLine; decide, (wA_cons (wE_tup (wA_cons (wE_int (wA_cons (wE_int (wA_nil ⟨by show 2 ≤ sizeLine; decide, (wA_nil ⟨by show 12 ≤ sizeLine; decide, ?_⟩)⟩)))))))⟩)))))))⟩)))))))⟩)))))))⟩)))))))))))))))))))) nd))⟩)))))))))))))))))))⟩)))))⟩)))))⟩)))))))))))))) nd)
  refine wO_catF (.lst _) (.lst _) (szOk (by simp only [List.length_append, List.length_cons, List.length_nil]; omega)) ?_
  refine wSs_cons (wS_set 4 (wE_bin (wE_name 4 rfl (wE_lstF (wA_cons (wE_tup (wA_cons (wE_bl (wA_cons (wE_int (wA_nil ⟨by show 2 ≤ sizeLine; decide, (wA_cons (wE_lstF (wA_nil ⟨by show 0 ≤ sizeLine; decide, (wA_cons (wE_dnew ?_))⟩)))⟩)))))))))) nd)
  refine fun dp ndp => ?_
  have s3 : Sub μ' (μ'.upd dp (.dic [])) := Sub.new ndp
  have lx3 : Lx m l c1 rm mo (μ'.upd dp (.dic [])) := lx1.new ndp
  have ls3 : Ls m l μ (μ'.upd dp (.dic [])) := ls1.new ndp
  have z3 : Zs (μ'.upd dp (.dic [])) (dp :: zs) := fun p hp => by
    rcases List.mem_cons.mp hp with rfl | hp
    · exact Mu.upd_same
    · exact s3 _ _ (z1 p hp)
  obtain ⟨mz3, lz3⟩ := lx3.zs z3
  refine wA_nil ⟨by show 3 ≤ sizeLine; decide, ?_⟩
  refine wO_catF (.lst _) (.lst _) (szOk (by simp only [List.length_append, List.length_cons, List.length_nil]; omega)) ?_
  refine wSs_cons (wS_ret (wE_ix (wE_bin (wE_name 4 rfl (wE_lstF (wA_cons (wE_tup (wA_cons (wE_str (wA_nil ⟨by show 1 ≤ sizeLine; decide, (wA_cons (wE_tup (wA_cons (wE_str (wA_cons (wE_str (wA_cons (wE_str (wA_cons (wE_tup (wA_cons (wE_tup (wA_cons (wE_int (wA_cons (wE_int (wA_nil ⟨by show 2 ≤ sizeLine; decide, (wA_nil ⟨by show 1 ≤ sizeLine; decide, (wA_nil ⟨by show 4 ≤ sizeLine; decide, (wA_cons (wE_tup (wA_cons (wE_str (wA_cons (wE_int (wA_cons (wE_tup (wA_nil ⟨by show 0 ≤ sizeLine; decide, (wA_nil ⟨by show 3 ≤ sizeLine; decide, (wA_cons (wE_tup (wA_cons (wE_int (wA_cons (wE_neg (wE_int ⟨_, rfl, (wA_nil ⟨by show 2 ≤ sizeLine; decide, (wA_cons (wE_str (wA_nil ⟨by show 5 ≤ sizeLine; decide, ?_⟩)))⟩)⟩)))))))⟩)⟩)))))))))⟩)⟩)⟩)))))))))))))))))⟩))))))))))
  refine wO_catF (.lst _) (.lst _) (szOk (by simp only [List.length_append, List.length_cons, List.length_nil]; omega)) ?_
  refine wE_cal C__law_draw ar (by omega) (wA_cons (wE_name 0 rfl (wA_cons (wE_int (wA_nil ?_)))))
  refine ⟨m, l, 39, c1, _, _, rfl, by decide, by decide, lx3, by omega, fun w μ4 w0 w1 lx4 ls4 => ?_⟩
  refine wI_lstEx w0 (by simp only [List.length_append, List.length_cons, List.length_nil]; omega) (fun y hy => ?_)
  have fin : OddR (dp :: zs) x y → Q y μ4 := fun h => q (dp :: zs) y (c1 + 1) μ4 h (fun _ h => .tail _ h) (z3.ls2 mz3 lz3 ls4) (by omega) lx4 (ls3.trans ls4)
  have key : y = .loc dp ∨ y ∈ ODDC := by
    simp only [List.cons_append, List.nil_append, List.mem_cons, List.not_mem_nil, or_false] at hy
    unfold ODDC
    simp only [List.mem_cons, List.not_mem_nil, or_false]
    rcases hy with h | h | h | h | h | h | h | h | h | h | h | h | h | h | h | h | h | h | h | h | h | h | h | h | h | h | h | h | h | h | h | h | h | h | h | h | h | h | h <;> simp only [h, true_or, or_true]
  rcases key with rfl | hy
  · exact fin (.dict x dp (.head _))
  · exact fin (.const x y hy)

end
end D

namespace D
open PySem PySem.Spec PyProof.Rows L2
local macro_rules | `(tactic| walk_at "mul") => `(tactic| first | refine wO_mul (mulR (by first | decide | omega) (by first | decide | omega)) ?_ | refine wO_mul (mulL (by first | decide | omega) (by first | decide | omega)) ?_)
local macro_rules | `(tactic| walk_at "mod") => `(tactic| refine wO_mod (by first | decide | omega) ?_)
local macro_rules | `(tactic| walk_at "fdiv") => `(tactic| refine wO_fdiv (by first | decide | omega) (divS (by first | decide | omega)) ?_)
local macro_rules | `(tactic| walk_at "ix") => `(tactic| first | refine wI_tup (by rfl) ?_ | refine wI_lst (by rfl) ?_)
local macro_rules | `(tactic| walk_at "sl") => `(tactic| first | refine wSl_tup ?_ | refine wSl_lstF ?_)
local macro_rules | `(tactic| walk_at "obj") => `(tactic| refine ⟨_, _, _, rfl, by assumption, rfl, ?_⟩)
local macro_rules | `(tactic| walk_at "len") => `(tactic| first | refine wC_len (.tup _) ?_ | refine wC_len (.lst _) ?_ | refine wC_len (.loc (by assumption)) ?_)
section
variable {P : Program} {w : World} {mg : Str → Option Value} {base : Heap} {K : PySem.W.Frag} {CL CP CTL CTe CPr CPo CNV CTG CCo CS pT : Addr} {k : Nat}
abbrev s__law_put : Stmt := topS 59
abbrev N__law_put : List Str := ["_law_m", "_law_thing_here", "_law_at", "_law_one"]
theorem sc__law_put : FnScope N__law_put ["_law_m", "_law_thing_here", "_law_at"] (defScope s__law_put) := ⟨rfl, rfl, rfl, by decide +kernel, rfl, by decide +kernel, by decide +kernel⟩
def Ls3 (m l ap : Addr) (μ μ' : Mu) : Prop := ∀ p o, p ≠ m → p ≠ l → p ≠ ap → μ p = some o → μ' p = some o
theorem Ls3.trans {m l ap : Addr} {a b c : Mu} (h : Ls3 m l ap a b) (k : Ls3 m l ap b c) : Ls3 m l ap a c := fun p o h1 h2 h3 e => k p o h1 h2 h3 (h p o h1 h2 h3 e)
theorem Ls.l3 {m l : Addr} (ap : Addr) {a b : Mu} (h : Ls m l a b) : Ls3 m l ap a b := fun p o h1 h2 _ e => h p o h1 h2 e
structure PtS (m l ap : Addr) (c : Nat) (rm : Int) (mo : Option (List Str)) (cn : Int) (zs : List Addr) (μ : Mu) : Prop where
  lx : Lx m l c rm mo μ
  z : Zs μ zs
  a : μ ap = some (.lst [.int cn])
  am : ap ≠ m
  al : ap ≠ l
theorem PtS.az {m l ap : Addr} {c : Nat} {rm : Int} {mo : Option (List Str)} {cn : Int} {zs : List Addr} {μ : Mu} (h : PtS m l ap c rm mo cn zs μ) : ap ∉ zs := fun e => by
  have h2 := h.z ap e
  rw [h.a] at h2; simp at h2
def PtR (c : Nat) (cn : Int) (x : D.A) (zs2 : List Addr) (y : D.A) (c2 : Nat) (cn2 : Int) : Prop :=
  cn2 ≤ cn ∧ ((y = x ∧ c2 = c ∧ (cn2 < 0 → cn < 0)) ∨ (0 ≤ cn ∧ cn2 < 0 ∧ PutR zs2 x y ∧ c2 ≤ c + 3))
def c__law_put (dp : Nat) : AC := fun xs μ Q _ => ∃ (m l ap : Addr) (c : Nat) (rm : Int) (mo : Option (List Str)) (cn : Int) (zs : List Addr) (x : D.A), xs = [.loc m, x, .loc ap] ∧ PtS m l ap c rm mo cn zs μ ∧ (0 ≤ cn → c < 2 ^ 38) ∧ gdA zs x ∧ lnA 900 x ∧ deep x < dp ∧
  ∀ (zs2 : List Addr) (y : D.A) (c2 : Nat) (cn2 : Int) μ', (∀ p ∈ zs, p ∈ zs2) → PtS m l ap c2 rm mo cn2 zs2 μ' → Ls3 m l ap μ μ' → PtR c cn x zs2 y c2 cn2 → Q y μ'
def PtJ (c : Nat) (cn : Int) (xs : List D.A) (zs2 : List Addr) (ys : List D.A) (c2 : Nat) (cn2 : Int) : Prop :=
  cn2 ≤ cn ∧ ((ys = xs ∧ c2 = c ∧ (cn2 < 0 → cn < 0)) ∨ (0 ≤ cn ∧ cn2 < 0 ∧ c2 ≤ c + 3 ∧ ∃ as bs x y, xs = as ++ x :: bs ∧ ys = as ++ y :: bs ∧ PutR zs2 x y))
theorem PtJ.snoc {c : Nat} {cn : Int} {xs : List D.A} {zs2 zs3 : List Addr} {ys : List D.A} {c2 c3 : Nat} {cn2 cn3 : Int} (h : PtJ c cn xs zs2 ys c2 cn2) (u : ∀ p ∈ zs2, p ∈ zs3) {x y : D.A} (k : PtR c2 cn2 x zs3 y c3 cn3) : PtJ c cn (xs ++ [x]) zs3 (ys ++ [y]) c3 cn3 := by
  obtain ⟨l1, h⟩ := h
  obtain ⟨l2, k⟩ := k
  refine ⟨Int.le_trans l2 l1, ?_⟩
  rcases h with ⟨rfl, rfl, h⟩ | ⟨h1, h2, h3, as, bs, x1, y1, rfl, rfl, h4⟩
  · rcases k with ⟨rfl, rfl, k⟩ | ⟨k1, k2, k3, k4⟩
    · exact .inl ⟨rfl, rfl, fun z => h (k z)⟩
    · exact .inr ⟨by omega, k2, k4, ys, [], x, y, rfl, rfl, k3⟩
  · rcases k with ⟨rfl, rfl, k⟩ | ⟨k1, _⟩
    · exact .inr ⟨h1, by omega, h3, as, bs ++ [y], x1, y1, by simp, by simp, h4.up u⟩
    · omega
theorem ok__law_put {n : Nat} {dp : Nat} {f : Addr} {fd : FuncData} (TX : Txt K mg w CL CP CTL CTe CPr CPo CNV CTG CCo CS pT) (C__law_odd : Cal P w K mg base n "_law_odd" c__law_odd) (C__law_put : Cal P w K mg base n "_law_put" (c__law_put dp)) (F : Fun K "_law_put" "_law_put" s__law_put f fd) : FnD P w K mg base CX0 (n + 1) f fd ["_law_m", "_law_thing_here", "_law_at"] (c__law_put (dp + 1)) := by
  refine fnD F sc__law_put (fun xs μ Q E hc => by obtain ⟨m, l, ap, c, rm, mo, cn, zs, x, rfl, S, hc0, gd, hl9, hdp, q⟩ := hc; rfl) (fun cdv Ao outer s H E xs μ Q E0 ar hc => ?_)
  obtain ⟨m, l, ap, c, rm, mo, cn, zs, x, rfl, S, hc0, gd, hl9, hdp, q⟩ := hc
  have nd := sc__law_put.nd
  refine wSs_cons (wS_asg (wE_bin (wE_ix (wE_name 2 rfl (wE_int ?_)))))
  refine wI_loc S.a (atI_pos (i := 0) (y := .int cn) (by rfl) (by decide)) ?_
  refine wE_int ?_
  refine wO_sub ?_
  refine wG_sub (wE_name 2 rfl (wE_int ?_))
  refine ⟨ap, _, 0, 0, rfl, rfl, S.a, rfl, ?_⟩
  have a1 : (μ.upd ap (.lst [.int (cn - 1)])) ap = some (.lst [.int (cn - 1)]) := Mu.upd_same
  have S1 : PtS m l ap c rm mo (cn - 1) zs (μ.upd ap (.lst [.int (cn - 1)])) := ⟨S.lx.del S.am S.al, fun p hp => by rw [Mu.upd_ne (fun e : p = ap => S.az (by rw [← e]; exact hp))]; exact S.z p hp, a1, S.am, S.al⟩
  have ls0 : Ls3 m l ap μ (μ.upd ap (.lst [.int (cn - 1)])) := fun p o _ _ h3 h => by rw [Mu.upd_ne h3]; exact h
  change wSs _ _ _ _ (μ.upd ap (.lst [.int (cn - 1)])) _
  generalize μ.upd ap (.lst [.int (cn - 1)]) = μa at S1 ls0 ⊢
  obtain ⟨nm, t1, t2, _⟩ := gd_ty gd S1.z
  refine wSs_cons (wS_if ?_)
  refine wT.imp (QB := fun k μ' => μa = μ' ∧ (k = true → cn - 1 < 0 ∨ isTupA x = false) ∧ (k = false → 0 ≤ cn - 1 ∧ ∃ ys, x = .tup ys)) ?_ (fun k μ' hq => ?_)
  refine wT_chain (wW_or (wT_cmp (wE_ix (wE_name 2 rfl (wE_int ?_)))))
  refine wI_loc S1.a (atI_pos (i := 0) (y := .int (cn - 1)) (by rfl) (by decide)) ?_
  refine wE_int ?_
  refine wO_lt ?_
  refine ⟨_, rfl, ?_⟩
  refine ⟨fun hk => ?_, fun hk => ?_⟩
  · exact ⟨rfl, fun _ => .inl (of_decide_eq_true hk), (fun e => nomatch e)⟩
  refine wW_or1 (wT_not (wT_val (wE_callB (id := "isinstance") TX.b_isinstance (by decide +kernel) (wA_cons (wE_name 1 rfl (wA_cons (wE_type (n := "tuple") TX.b_tuple (by decide +kernel) (wA_nil ?_))))))))
  refine wC_isi t1 t2 ?_
  refine ⟨_, rfl, ?_⟩
  refine ⟨rfl, fun z => .inr (by simpa using z), fun z => ⟨?_, _, tup_eq (by simpa using z)⟩⟩
  have := of_decide_eq_false hk
  omega
  obtain ⟨rfl, g1, g2⟩ := hq
  refine ⟨fun hk => ?_, fun hk => ?_⟩
  refine wSs_cons (wS_ret ?_)
  refine wE_if (wT_cmp (wE_ix (wE_name 2 rfl (wE_int ?_))))
  refine wI_loc S1.a (atI_pos (i := 0) (y := .int (cn - 1)) (by rfl) (by decide)) ?_
  refine wE_neg (wE_int ⟨_, rfl, ?_⟩)
  refine wO_eqI ?_
  refine ⟨_, rfl, ?_⟩
  refine ⟨fun hk => ?_, fun hk => ?_⟩
  refine wE_cal C__law_odd ar (by omega) (wA_cons (wE_name 0 rfl (wA_cons (wE_name 1 rfl (wA_nil ?_)))))
  have hk1 := of_decide_eq_true hk
  refine ⟨m, l, c, rm, mo, zs, x, rfl, S1.lx, by have := hc0 (by omega); omega, gd, S1.z, hl9.1, fun zs2 y c2 μ2 ho u z2 hc2 lx2 ls2 => ?_⟩
  have hk1 := of_decide_eq_true hk
  exact q zs2 y c2 (cn - 1) μ2 u ⟨lx2, z2, ls2 _ _ S.am S.al S1.a, S.am, S.al⟩ (ls0.trans (ls2.l3 ap)) ⟨by omega, .inr ⟨by omega, by omega, .odd ho, hc2⟩⟩
  refine wE_name 1 rfl ?_
  have hk1 := of_decide_eq_false hk
  exact q zs x c (cn - 1) μa (fun _ h => h) S1 ls0 ⟨by omega, .inl ⟨rfl, rfl, fun z => by omega⟩⟩
  obtain ⟨hcn, ys, rfl⟩ := g2 hk
  obtain ⟨hl, hg⟩ := gd_tup gd
  refine wSs_nil ?_
  refine wSs_cons (wS_ret (wE_callTy (T := "tuple") TX.b_tuple (by decide +kernel) (wA_cons (wE_lc [("_law_one", 3)] (wIt_tup (wE_name 1 rfl ⟨_, rfl, ?_⟩)) nd (blkOk_by (N := N__law_put) (sc := defScope s__law_put) (by decide +kernel))))))
  refine ⟨szOk (by omega), fun i acc μ' => ∃ (zs2 : List Addr) (c2 : Nat) (cn2 : Int), (∀ p ∈ zs, p ∈ zs2) ∧ PtS m l ap c2 rm mo cn2 zs2 μ' ∧ Ls3 m l ap μa μ' ∧ PtJ c (cn - 1) (ys.take i) zs2 acc c2 cn2, ⟨zs, c, cn - 1, fun _ h => h, S1, (fun _ _ _ _ _ h => h), ⟨Int.le_refl _, .inl ⟨rfl, rfl, fun z => z⟩⟩⟩, fun i y acc μ' hy hJ s1 H0 C cl fp => ?_, fun acc μ' hJ pl npl => ?_⟩
  obtain ⟨zs2, c2, cn2, u2, S2, ls2, J2⟩ := hJ
  refine wGw_name 3 (fun s0 H0 C cl fp => (wE_cal C__law_put ar.bk (by omega) (wA_cons (wE_name 0 rfl (wA_cons (wE_name 3 rfl (wA_cons (wE_name 2 rfl (wA_nil ?_))))))))) nd
  have hc2 : 0 ≤ cn2 → c2 < 2 ^ 38 := fun z => by
    have := hc0 (by omega)
    rcases J2.2 with ⟨_, e, _⟩ | ⟨_, e, _⟩ <;> omega
  have hdy := deeps_in (List.mem_of_getElem? hy)
  have hs := hl9.2
  simp only [shA] at hs
  refine ⟨m, l, ap, c2, rm, mo, cn2, zs2, y, rfl, S2, hc2, gd_up u2 (hg y (List.mem_of_getElem? hy)), shs_mem hs y (List.mem_of_getElem? hy), by simp only [deep] at hdp; omega, fun zs3 y3 c3 cn3 μ3 u3 S3 ls3 k3 => ?_⟩
  have esn : ys.take (i + 1) = ys.take i ++ [y] := by rw [List.take_add_one, hy]; rfl
  exact ⟨zs3, c3, cn3, fun p hp => u3 p (u2 p hp), S3, ls2.trans ls3, by rw [esn]; exact J2.snoc u3 k3⟩
  obtain ⟨zs2, c2, cn2, u2, S2, ls2, J2⟩ := hJ
  rw [List.take_length] at J2
  have hap : ap ≠ pl := fun e => by have h := S2.a; rw [e, npl] at h; cases h
  have S3 : PtS m l ap c2 rm mo cn2 zs2 (μ'.upd pl (.lst acc)) := ⟨S2.lx.new npl, S2.z.sub (Sub.new npl), by rw [Mu.upd_ne hap]; exact S2.a, S.am, S.al⟩
  refine wA_nil ?_
  refine wC_tuple (.loc Mu.upd_same) ?_
  refine q zs2 (.tup acc) c2 cn2 _ u2 S3 ((ls0.trans ls2).trans fun p o _ _ _ h => Sub.new npl p o h) ⟨by have := J2.1; omega, ?_⟩
  rcases J2.2 with ⟨rfl, e, k⟩ | ⟨k1, k2, k3, as, bs, x1, y1, rfl, rfl, k4⟩
  · exact .inl ⟨rfl, e, fun z => by have := k z; omega⟩
  · exact .inr ⟨by omega, k2, .within as bs k4, k3⟩

end
end D

namespace D
open PySem PySem.Spec PyProof.Rows L2
local macro_rules | `(tactic| walk_at "mul") => `(tactic| first | refine wO_mul (mulR (by first | decide | omega) (by first | decide | omega)) ?_ | refine wO_mul (mulL (by first | decide | omega) (by first | decide | omega)) ?_)
local macro_rules | `(tactic| walk_at "mod") => `(tactic| refine wO_mod (by first | decide | omega) ?_)
local macro_rules | `(tactic| walk_at "fdiv") => `(tactic| refine wO_fdiv (by first | decide | omega) (divS (by first | decide | omega)) ?_)
local macro_rules | `(tactic| walk_at "ix") => `(tactic| first | refine wI_tup (by rfl) ?_ | refine wI_lst (by rfl) ?_)
local macro_rules | `(tactic| walk_at "sl") => `(tactic| first | refine wSl_tup ?_ | refine wSl_lstF ?_)
local macro_rules | `(tactic| walk_at "obj") => `(tactic| refine ⟨_, _, _, rfl, by assumption, rfl, ?_⟩)
local macro_rules | `(tactic| walk_at "len") => `(tactic| first | refine wC_len (.tup _) ?_ | refine wC_len (.lst _) ?_ | refine wC_len (.loc (by assumption)) ?_)
section
variable {P : Program} {w : World} {mg : Str → Option Value} {base : Heap} {K : PySem.W.Frag} {CL CP CTL CTe CPr CPo CNV CTG CCo CS pT : Addr} {k : Nat}
abbrev s__law_many : Stmt := topS 57
abbrev N__law_many : List Str := ["_law_thing_here", "_law_one"]
theorem sc__law_many : FnScope N__law_many ["_law_thing_here"] (defScope s__law_many) := ⟨rfl, rfl, rfl, by decide +kernel, rfl, by decide +kernel, by decide +kernel⟩
mutual
def manyA : D.A → Nat
  | .tup xs => 1 + manys xs
  | _ => 1
def manys : List D.A → Nat
  | [] => 0
  | x :: xs => manyA x + manys xs
end
mutual
theorem many_le : ∀ x : D.A, manyA x ≤ shl x + 1
  | .tup xs => by have := manys_le xs; simp only [manyA, shl]; omega
  | .non => by simp only [manyA]; omega
  | .bl _ => by simp only [manyA]; omega
  | .int _ => by simp only [manyA]; omega
  | .str _ => by simp only [manyA]; omega
  | .ty _ => by simp only [manyA]; omega
  | .loc _ => by simp only [manyA]; omega
  | .lst _ => by simp only [manyA]; omega
  | .fls _ => by simp only [manyA]; omega
theorem manys_le : ∀ xs : List D.A, manys xs ≤ shls xs
  | [] => Nat.zero_le _
  | x :: xs => by have := many_le x; have := manys_le xs; simp only [manys, shls]; omega
end
theorem many_pos (x : D.A) : 1 ≤ manyA x := by cases x <;> simp only [manyA] <;> omega
theorem many_not {x : D.A} (h : isTupA x = false) : manyA x = 1 := by
  cases x with
  | tup xs => cases h
  | _ => rfl
theorem manys_sum : ∀ xs : List D.A, ((xs.map fun y => ((manyA y : Nat) : Int)).sum = ((manys xs : Nat) : Int))
  | [] => rfl
  | x :: xs => by rw [List.map_cons, List.sum_cons, manys_sum xs]; simp only [manys]; omega
def c__law_many (dp : Nat) : AC := fun xs μ Q _ => ∃ (zs : List Addr) (x : D.A), xs = [x] ∧ gdA zs x ∧ Zs μ zs ∧ deep x < dp ∧ Q (.int (manyA x : Nat)) μ
theorem ok__law_many {n : Nat} {dp : Nat} {f : Addr} {fd : FuncData} (TX : Txt K mg w CL CP CTL CTe CPr CPo CNV CTG CCo CS pT) (C__law_many : Cal P w K mg base n "_law_many" (c__law_many dp)) (F : Fun K "_law_many" "_law_many" s__law_many f fd) : FnD P w K mg base CX0 (n + 1) f fd ["_law_thing_here"] (c__law_many (dp + 1)) := by
  refine fnD F sc__law_many (fun xs μ Q E hc => by obtain ⟨zs, x, rfl, gd, hz, hd, q⟩ := hc; rfl) (fun cdv Ao outer s H E xs μ Q E0 ar hc => ?_)
  obtain ⟨zs, x, rfl, gd, hz, hd, q⟩ := hc
  obtain ⟨nm, t1, t2, _⟩ := gd_ty gd hz
  have nd := sc__law_many.nd
  refine wSs_cons (wS_ret (wE_bin (wE_int ?_)))
  refine wE_if (wT_val (wE_callB (id := "isinstance") TX.b_isinstance (by decide +kernel) (wA_cons (wE_name 0 rfl (wA_cons (wE_type (n := "tuple") TX.b_tuple (by decide +kernel) (wA_nil ?_)))))))
  refine wC_isi t1 t2 ?_
  refine ⟨_, rfl, ?_⟩
  refine ⟨fun hk => ?_, fun hk => ?_⟩
  obtain ⟨ys, rfl⟩ : ∃ ys, x = .tup ys := ⟨_, tup_eq hk⟩
  obtain ⟨hl, hg⟩ := gd_tup gd
  refine wE_callB (id := "sum") TX.b_sum (by decide +kernel) (wA_cons (wE_lcF (own := [("_law_one", 1)]) (wIt_tup (wE_name 0 rfl ⟨_, rfl, ?_⟩)) nd (blkOk_by (N := N__law_many) (sc := defScope s__law_many) (by decide +kernel))))
  refine ⟨szOk (by omega), (ys.map fun y => ((manyA y : Nat) : Int)).map D.A.int, by simp, fun i y z hy hz2 s0 H0 C cl fp => ?_, ?_⟩
  obtain ⟨w1, g1, rfl⟩ := map_at hz2
  obtain ⟨w2, g2, rfl⟩ := map_at g1
  obtain rfl : y = w2 := Option.some.inj (hy.symm.trans g2)
  refine wGw_name 1 (⟨rfl, fun s0 H0 C cl fp => (wE_cal C__law_many ar.bk (by omega) (wA_cons (wE_name 1 rfl (wA_nil ?_))))⟩) nd
  have hdy := deeps_in (List.mem_of_getElem? hy)
  refine ⟨zs, y, rfl, hg y (List.mem_of_getElem? hy), hz, by simp only [deep] at hd; omega, ?_⟩
  refine ⟨?_, .refl _⟩
  rfl
  refine wA_nil ?_
  refine wC_sum rfl (.lst _) ?_
  rw [manys_sum]
  refine wO_add ?_
  rw [show (1 : Int) + ((manys ys : Nat) : Int) = ((manyA (.tup ys) : Nat) : Int) by simp only [manyA]; omega]
  exact q
  refine wE_int ?_
  refine wO_add ?_
  rw [many_not hk] at q
  exact q

end
end D

namespace D
open PySem PySem.Spec PyProof.Rows L2
local macro_rules | `(tactic| walk_at "mul") => `(tactic| first | refine wO_mul (mulR (by first | decide | omega) (by first | decide | omega)) ?_ | refine wO_mul (mulL (by first | decide | omega) (by first | decide | omega)) ?_)
local macro_rules | `(tactic| walk_at "mod") => `(tactic| refine wO_mod (by first | decide | omega) ?_)
local macro_rules | `(tactic| walk_at "fdiv") => `(tactic| refine wO_fdiv (by first | decide | omega) (divS (by first | decide | omega)) ?_)
local macro_rules | `(tactic| walk_at "ix") => `(tactic| first | refine wI_tup (by rfl) ?_ | refine wI_lst (by rfl) ?_)
local macro_rules | `(tactic| walk_at "sl") => `(tactic| first | refine wSl_tup ?_ | refine wSl_lstF ?_)
local macro_rules | `(tactic| walk_at "obj") => `(tactic| refine ⟨_, _, _, rfl, by assumption, rfl, ?_⟩)
local macro_rules | `(tactic| walk_at "len") => `(tactic| first | refine wC_len (.tup _) ?_ | refine wC_len (.lst _) ?_ | refine wC_len (.loc (by assumption)) ?_)
section
variable {P : Program} {w : World} {mg : Str → Option Value} {base : Heap} {K : PySem.W.Frag} {CL CP CTL CTe CPr CPo CNV CTG CCo CS pT : Addr} {k : Nat}
abbrev s__law_whole : Stmt := topS 49
abbrev N__law_whole : List Str := ["_law_thing_here", "_law_low", "_law_high"]
theorem sc__law_whole : FnScope N__law_whole ["_law_thing_here", "_law_low", "_law_high"] (defScope s__law_whole) := ⟨rfl, rfl, rfl, by decide +kernel, rfl, by decide +kernel, by decide +kernel⟩
def c__law_whole : AC := fun xs μ Q _ => ∃ (zs : List Addr) (x a b : D.A), xs = [x, a, b] ∧ gdA zs x ∧ Zs μ zs ∧ (wholeA x = true → ∃ j k : Int, a = .int j ∧ b = .int k) ∧ ∀ r : Bool, (r = true ↔ ∃ i j k : Int, x = .int i ∧ a = .int j ∧ b = .int k ∧ j ≤ i ∧ i ≤ k) → Q (.bl r) μ
theorem ok__law_whole {n : Nat}  {f : Addr} {fd : FuncData} (TX : Txt K mg w CL CP CTL CTe CPr CPo CNV CTG CCo CS pT)  (F : Fun K "_law_whole" "_law_whole" s__law_whole f fd) : FnD P w K mg base CX0 (n + 1) f fd ["_law_thing_here", "_law_low", "_law_high"] c__law_whole := by
  refine fnD F sc__law_whole (fun xs μ Q E hc => by obtain ⟨zs, x, a, b, rfl, gd, hz, hab, q⟩ := hc; rfl) (fun cdv Ao outer s H E xs μ Q E0 ar hc => ?_)
  obtain ⟨zs, x, a, b, rfl, gd, hz, hab, q⟩ := hc
  obtain ⟨nm, k1, t1, t2, t3, k2, t4, t5⟩ := gd_kd gd hz
  have no : wholeA x = false → Q (.bl false) μ := fun h => q false ⟨(fun z => nomatch z), fun ⟨i, j, k, e, _⟩ => by rw [e] at h; cases h⟩
  have nd := sc__law_whole.nd
  refine wSs_cons (wS_ret ?_)
  refine wE_and (wE_callB (id := "isinstance") TX.b_isinstance (by decide +kernel) (wA_cons (wE_name 0 rfl (wA_cons (wE_type (n := "int") TX.b_int (by decide +kernel) (wA_nil ?_))))))
  refine wC_isi t1 t2 ?_
  refine ⟨_, rfl, and_flip (fun hk => ?_) (fun hk => ?_)⟩
  · exact no (t3 hk)
  have t6 := t5 hk
  refine wE_and (wE_not (wE_callB (id := "isinstance") TX.b_isinstance (by decide +kernel) (wA_cons (wE_name 0 rfl (wA_cons (wE_type (n := "bool") TX.b_bool (by decide +kernel) (wA_nil ?_)))))))
  refine wC_isi t1 t4 ?_
  refine ⟨_, rfl, ?_⟩
  refine ⟨_, rfl, and_flip (fun hk => ?_) (fun hk => ?_)⟩
  · exact no (t6.trans hk)
  have wh : wholeA x = true := t6.trans hk
  obtain ⟨j, k, rfl, rfl⟩ := hab wh
  obtain ⟨i, rfl⟩ : ∃ i, x = .int i := by cases x with
    | int i => exact ⟨i, rfl⟩
    | _ => cases wh
  refine wE_one (wE_chain2 (wE_name 1 rfl (wE_name 0 rfl ?_)))
  refine wO_le ?_
  refine ⟨_, rfl, and_flip (fun hk => ?_) (fun hk => ?_)⟩
  · refine q false ⟨(fun z => nomatch z), fun ⟨i2, j2, k2, e1, e2, e3, h1, h2⟩ => ?_⟩
    cases e1; cases e2; cases e3
    exact absurd h1 (of_decide_eq_false hk)
  refine wE_name 2 rfl ?_
  refine wO_le ?_
  refine q _ ⟨fun z => ⟨i, j, k, rfl, rfl, rfl, of_decide_eq_true hk, of_decide_eq_true z⟩, fun ⟨i2, j2, k2, e1, e2, e3, h1, h2⟩ => ?_⟩
  cases e1; cases e2; cases e3
  exact decide_eq_true h2

abbrev s__law_is_name : Stmt := topS 50
abbrev N__law_is_name : List Str := ["_law_thing_here", "_law_bars", "_law_one"]
theorem sc__law_is_name : FnScope N__law_is_name ["_law_thing_here"] (defScope s__law_is_name) := ⟨rfl, rfl, rfl, by decide +kernel, rfl, by decide +kernel, by decide +kernel⟩
theorem wO_notInSign {X : Cx} {μ : Mu} {Q : D.A → Mu → Prop} {ch : Nat} {z : Str} (q : Q (.bl (!decide (ch ∈ z.cps.toList))) μ) : wO X (compareOp .NotIn) (.str ⟨#[ch]⟩) (.str z) μ Q :=
  wO_of op_notIn_sign fun M F H v w rl r1 r2 => ⟨ch, z, rep_str.mp r1, rep_str.mp r2, .pure rl (rep_bl.mpr rfl) q⟩
theorem pick_empty : ∀ (ks : List Bool) (zs : List D.A), ks.length = zs.length → (pickA ks zs).isEmpty = ks.all fun k => !k
  | [], [], _ => rfl
  | k :: ks, z :: zs, h => by
    have ih := pick_empty ks zs (by simpa using h)
    cases k with
    | true => rfl
    | false => simp only [pickA, List.all_cons, Bool.not_false, Bool.true_and]; exact ih
def c__law_is_name : AC := fun xs μ Q _ => ∃ (zs : List Addr) (x : D.A), xs = [x] ∧ gdA zs x ∧ Zs μ zs ∧ Q (.bl (isNm x)) μ
theorem ok__law_is_name {n : Nat}  {f : Addr} {fd : FuncData} (TX : Txt K mg w CL CP CTL CTe CPr CPo CNV CTG CCo CS pT)  (F : Fun K "_law_is_name" "_law_is_name" s__law_is_name f fd) : FnD P w K mg base CX0 (n + 1) f fd ["_law_thing_here"] c__law_is_name := by
  refine fnD F sc__law_is_name (fun xs μ Q E hc => by obtain ⟨zs, x, rfl, gd, hz, q⟩ := hc; rfl) (fun cdv Ao outer s H E xs μ Q E0 ar hc => ?_)
  obtain ⟨zs, x, rfl, gd, hz, q⟩ := hc
  obtain ⟨nm, k, t1, t2, t3, t4⟩ := gd_nm gd hz
  have nd := sc__law_is_name.nd
  refine wSs_cons (wS_set 1 (wE_m1 PySem.F.slot_str_split PySem.F.type_str_split (wE_str ⟨_, rfl, (wE_str ?_)⟩)) nd)
  refine wM_split (by decide) (by decide) ?_
  rw [split_bars]
  refine wSs_cons (wS_if ?_)
  refine wT.imp (QB := fun k' μ' => μ = μ' ∧ (k' = true → isNm x = false) ∧ (k' = false → ∃ w, x = .str w ∧ w.length ≤ 1000 ∧ isNm x = letA w)) ?_ (fun k μ' hq => ?_)
  refine wT_chain (wW_or (wT_not (wT_val (wE_callB (id := "isinstance") TX.b_isinstance (by decide +kernel) (wA_cons (wE_name 0 rfl (wA_cons (wE_type (n := "str") TX.b_str (by decide +kernel) (wA_nil ?_)))))))))
  refine wC_isi t1 t2 ?_
  refine ⟨_, rfl, ?_⟩
  refine ⟨fun hk => ?_, fun hk => ?_⟩
  · exact ⟨rfl, fun _ => t4 (by simpa using hk), fun z => nomatch z⟩
  obtain ⟨w, rfl, hw⟩ := t3 (by simpa using hk)
  refine wW_or (wT_not (wT_chain2 (wE_int (wE_callB (id := "len") TX.b_len (by decide +kernel) (wA_cons (wE_name 0 rfl (wA_nil ?_)))))))
  refine wC_lenS (szOk (by omega)) ?_
  refine wO_le ?_
  refine ⟨_, rfl, and_flip (fun hk => ?_) (fun hk => ?_)⟩
  · exact ⟨fun _ => ⟨rfl, fun _ => by simp only [isNm]; rw [hk]; rfl, fun z => nomatch z⟩, fun z => nomatch z⟩
  have h1 := hk
  refine wE_int ?_
  refine wO_le ?_
  refine ⟨_, rfl, ?_⟩
  refine ⟨fun hk => ?_, fun hk => ?_⟩
  · have h2 : decide ((w.length : Int) ≤ 8) = false := by simpa using hk
    exact ⟨rfl, fun _ => by simp only [isNm]; rw [h1, h2]; rfl, fun z => nomatch z⟩
  have h2 : decide ((w.length : Int) ≤ 8) = true := by simpa using hk
  refine wW_or1 (wT_cmp (wE_name 0 rfl (wE_name 1 rfl ?_)))
  refine wO_in (.lst _) rfl (by rfl) ?_
  refine ⟨_, rfl, ?_⟩
  refine ⟨rfl, fun z => ?_, fun z => ⟨w, rfl, hw, ?_⟩⟩
  · simp only [isNm]; rw [h1, h2, z]; rfl
  · simp only [isNm]; rw [h1, h2, z]; rfl
  obtain ⟨rfl, g1, g2⟩ := hq
  refine ⟨fun hk => ?_, fun hk => ?_⟩
  refine wSs_cons (wS_ret (wE_bl ?_))
  rw [g1 hk] at q; exact q
  obtain ⟨w, rfl, hw, e⟩ := g2 hk
  rw [e] at q
  refine wSs_nil ?_
  refine wSs_cons (wS_ret (wE_cmp (wE_lcPF (own := [("_law_one", 2)]) (wIt_str (wE_name 0 rfl ⟨_, rfl, ?_⟩)) nd (blkOk_by (N := N__law_is_name) (sc := defScope s__law_is_name) (by decide +kernel)))))
  refine ⟨szOk (by simp only [signsA, List.length_map]; show w.cps.toList.length ≤ _; rw [Array.length_toList]; exact Nat.le_trans hw (by decide)), w.cps.toList.map fun ch => !decide (ch ∈ LETS.cps.toList), w.cps.toList.map fun ch => D.A.str ⟨#[ch]⟩, by simp [signsA], by simp [signsA], fun j y k z hy hk2 hz2 s0 H0 C cl fp => ?_, ?_⟩
  obtain ⟨ch, h3, rfl⟩ := map_at hy
  obtain ⟨c2, h4, rfl⟩ := map_at hk2
  obtain ⟨c3, h5, rfl⟩ := map_at hz2
  obtain rfl : ch = c2 := Option.some.inj (h3.symm.trans h4)
  obtain rfl : ch = c3 := Option.some.inj (h3.symm.trans h5)
  refine wGw_name 2 (⟨rfl, ?_⟩) nd
  refine ⟨fun s0 H0 C cl fp => ?_, fun kt s0 H0 C cl fp => ?_⟩
  refine wT_cmp (wE_name 2 rfl (wE_str ?_))
  refine wO_notInSign ?_
  refine ⟨_, rfl, ?_⟩
  exact ⟨rfl, .refl _⟩
  refine wE_name 2 rfl ?_
  refine ⟨?_, .refl _⟩
  rfl
  refine wE_lstF (wA_nil ⟨by show 0 ≤ sizeLine; decide, ?_⟩)
  refine wO_eqNoneL ar.u64 ?_
  rw [pick_empty _ _ (by simp), List.all_map]
  rw [show (w.cps.toList.all ((fun k => !k) ∘ fun ch => !decide (ch ∈ LETS.cps.toList))) = letA w by unfold letA; congr 1; funext ch; simp]
  exact q

abbrev s__law_is_row : Stmt := topS 51
abbrev N__law_is_row : List Str := ["_law_thing_here", "_law_most", "_law_one"]
theorem sc__law_is_row : FnScope N__law_is_row ["_law_thing_here", "_law_most"] (defScope s__law_is_row) := ⟨rfl, rfl, rfl, by decide +kernel, rfl, by decide +kernel, by decide +kernel⟩
def c__law_is_row : AC := fun xs μ Q _ => ∃ (zs : List Addr) (x : D.A) (most : Int), xs = [x, .int most] ∧ gdA zs x ∧ Zs μ zs ∧ Q (.bl (namesA most x)) μ
theorem ok__law_is_row {n : Nat}  {f : Addr} {fd : FuncData} (TX : Txt K mg w CL CP CTL CTe CPr CPo CNV CTG CCo CS pT) (C__law_is_name : Cal P w K mg base n "_law_is_name" c__law_is_name) (F : Fun K "_law_is_row" "_law_is_row" s__law_is_row f fd) : FnD P w K mg base CX0 (n + 1) f fd ["_law_thing_here", "_law_most"] c__law_is_row := by
  refine fnD F sc__law_is_row (fun xs μ Q E hc => by obtain ⟨zs, x, most, rfl, gd, hz, q⟩ := hc; rfl) (fun cdv Ao outer s H E xs μ Q E0 ar hc => ?_)
  obtain ⟨zs, x, most, rfl, gd, hz, q⟩ := hc
  obtain ⟨nm, t1, t2, _⟩ := gd_ty gd hz
  have nd := sc__law_is_row.nd
  refine wSs_cons (wS_if ?_)
  refine wT.imp (QB := fun k μ' => μ = μ' ∧ (k = true → namesA most x = false) ∧ (k = false → ∃ ys, x = .tup ys ∧ namesA most x = ys.all isNm)) ?_ (fun k μ' hq => ?_)
  refine wT_chain (wW_or (wT_not (wT_val (wE_callB (id := "isinstance") TX.b_isinstance (by decide +kernel) (wA_cons (wE_name 0 rfl (wA_cons (wE_type (n := "tuple") TX.b_tuple (by decide +kernel) (wA_nil ?_)))))))))
  refine wC_isi t1 t2 ?_
  refine ⟨_, rfl, ?_⟩
  refine ⟨fun hk => ?_, fun hk => ?_⟩
  · refine ⟨rfl, fun _ => ?_, (fun e => nomatch e)⟩
    unfold namesA
    rw [show isTupA x = false by simpa using hk]; rfl
  obtain ⟨ys, rfl⟩ : ∃ ys, x = .tup ys := ⟨_, tup_eq (by simpa using hk)⟩
  obtain ⟨hl, hg⟩ := gd_tup gd
  have en : namesA most (.tup ys) = (decide ((1 : Int) ≤ (ys.length : Int)) && decide ((ys.length : Int) ≤ most) && ys.all isNm) := by
    unfold namesA
    show (true && decide (1 ≤ ys.length) && _ && _) = _
    rw [Bool.true_and, show decide (1 ≤ ys.length) = decide ((1 : Int) ≤ (ys.length : Int)) by rw [decide_eq_decide]; omega]; rfl
  refine wW_or1 (wT_not (wT_chain2 (wE_int (wE_callB (id := "len") TX.b_len (by decide +kernel) (wA_cons (wE_name 0 rfl (wA_nil ?_)))))))
  refine wC_len (.tup _) ?_
  refine wO_le ?_
  refine ⟨_, rfl, and_flip (fun hk => ?_) (fun hk => ?_)⟩
  · exact ⟨rfl, fun _ => by rw [en, hk]; rfl, (fun e => nomatch e)⟩
  rw [hk, Bool.true_and] at en
  refine wE_name 1 rfl ?_
  refine wO_le ?_
  refine ⟨_, rfl, ?_⟩
  refine ⟨rfl, fun z => ?_, fun z => ⟨ys, rfl, ?_⟩⟩
  · rw [en, show decide ((ys.length : Int) ≤ most) = false by simpa using z]; rfl
  · rw [en, show decide ((ys.length : Int) ≤ most) = true by simpa using z]; rfl
  obtain ⟨rfl, g1, g2⟩ := hq
  refine ⟨fun hk => ?_, fun hk => ?_⟩
  refine wSs_cons (wS_ret (wE_bl ?_))
  rw [g1 hk] at q; exact q
  obtain ⟨ys, rfl, e⟩ := g2 hk
  obtain ⟨hl, hg⟩ := gd_tup gd
  rw [e] at q
  refine wSs_nil ?_
  refine wSs_cons (wS_ret (wE_cmp (wE_lcPF (own := [("_law_one", 2)]) (wIt_tup (wE_name 0 rfl ⟨_, rfl, ?_⟩)) nd (blkOk_by (N := N__law_is_row) (sc := defScope s__law_is_row) (by decide +kernel)))))
  refine ⟨szOk (by omega), ys.map fun y => !isNm y, ys, by simp, rfl, fun j y k z hy hk2 hz2 s0 H0 C cl fp => ?_, ?_⟩
  obtain ⟨y2, h4, rfl⟩ := map_at hk2
  obtain rfl : y = y2 := Option.some.inj (hy.symm.trans h4)
  obtain rfl : y = z := Option.some.inj (hy.symm.trans hz2)
  refine wGw_name 2 (⟨rfl, ?_⟩) nd
  refine ⟨fun s0 H0 C cl fp => ?_, fun kt s0 H0 C cl fp => ?_⟩
  refine wT_not (wT_val (wE_cal C__law_is_name ar.bk (by omega) (wA_cons (wE_name 2 rfl (wA_nil ?_)))))
  refine ⟨zs, y, rfl, hg y (List.mem_of_getElem? hy), hz, ?_⟩
  refine ⟨_, rfl, ?_⟩
  exact ⟨rfl, .refl _⟩
  refine wE_name 2 rfl ?_
  refine ⟨?_, .refl _⟩
  rfl
  refine wE_lstF (wA_nil ⟨by show 0 ≤ sizeLine; decide, ?_⟩)
  refine wO_eqNoneL ar.u64 ?_
  rw [pick_empty _ _ (by simp), List.all_map]
  rw [show (ys.all ((fun k => !k) ∘ fun y => !isNm y)) = ys.all isNm by congr 1; funext y; simp]
  exact q

abbrev s__law_is_thing : Stmt := topS 52
abbrev N__law_is_thing : List Str := ["_law_thing_here", "_law_told"]
theorem sc__law_is_thing : FnScope N__law_is_thing ["_law_thing_here", "_law_told"] (defScope s__law_is_thing) := ⟨rfl, rfl, rfl, by decide +kernel, rfl, by decide +kernel, by decide +kernel⟩
theorem strs_in (w : Str) : ∀ l : List Str, inA (.str w) (l.map D.A.str) = decide (w ∈ l)
  | [] => rfl
  | x :: l => by
    have ih := strs_in w l
    unfold inA at ih ⊢
    rw [List.map_cons, List.any_cons, ih]
    show ((x == w) || decide (w ∈ l)) = _
    by_cases e : x = w
    · subst e; simp
    · have e2 : ¬ w = x := fun z => e z.symm
      simp [e, e2]
def c__law_is_thing : AC := fun xs μ Q _ => ∃ (zs : List Addr) (x : D.A) (t : Addr) (T : List Str), xs = [x, .loc t] ∧ gdA zs x ∧ Zs μ zs ∧ μ t = some (.lst (T.map D.A.str)) ∧ Q (.bl (thingA T x)) μ
theorem ok__law_is_thing {n : Nat}  {f : Addr} {fd : FuncData} (TX : Txt K mg w CL CP CTL CTe CPr CPo CNV CTG CCo CS pT) (C__law_whole : Cal P w K mg base n "_law_whole" c__law_whole) (C__law_common : Cal P w K mg base n "_law_common" c__law_common) (F : Fun K "_law_is_thing" "_law_is_thing" s__law_is_thing f fd) : FnD P w K mg base CX0 (n + 1) f fd ["_law_thing_here", "_law_told"] c__law_is_thing := by
  refine fnD F sc__law_is_thing (fun xs μ Q E hc => by obtain ⟨zs, x, t, T, rfl, gd, hz, ht, q⟩ := hc; rfl) (fun cdv Ao outer s H E xs μ Q E0 ar hc => ?_)
  obtain ⟨zs, x, t, T, rfl, gd, hz, ht, q⟩ := hc
  obtain ⟨nm, t1, t3, t2⟩ := gd_ty gd hz
  have nd := sc__law_is_thing.nd
  refine wSs_cons (wS_if (wT_val (wE_callB (id := "isinstance") TX.b_isinstance (by decide +kernel) (wA_cons (wE_name 0 rfl (wA_cons (wE_type (n := "str") TX.b_str (by decide +kernel) (wA_nil ?_))))))))
  refine wC_isi t1 t2 ?_
  refine ⟨_, rfl, ?_⟩
  refine ⟨fun hk => ?_, fun hk => ?_⟩
  obtain ⟨w, rfl⟩ : ∃ w, x = .str w := ⟨_, str_eq hk⟩
  refine wSs_cons (wS_ret (wE_cmp (wE_name 0 rfl (wE_name 1 rfl ?_))))
  refine wO_in (.loc ht) rfl (by rw [List.all_map]; exact List.all_eq_true.mpr fun _ _ => rfl) ?_
  rw [strs_in]
  exact q
  refine wSs_nil ?_
  refine wSs_cons (wS_if ?_)
  have nst : isStrA x = false := hk
  have eth : thingA T x = isFr x := by
    cases x with
    | str w => cases nst
    | _ => rfl
  rw [eth] at q
  refine wT.imp (QB := fun k μ' => μ = μ' ∧ (k = true → isFr x = false) ∧ (k = false → ∃ i b, x = .tup [.int i, b])) ?_ (fun k μ' hq => ?_)
  refine wT_chain (wW_or (wT_not (wT_val (wE_callB (id := "isinstance") TX.b_isinstance (by decide +kernel) (wA_cons (wE_name 0 rfl (wA_cons (wE_type (n := "tuple") TX.b_tuple (by decide +kernel) (wA_nil ?_)))))))))
  refine wC_isi t1 t3 ?_
  refine ⟨_, rfl, ?_⟩
  refine ⟨fun hk => ?_, fun hk => ?_⟩
  · refine ⟨rfl, fun _ => ?_, (fun e => nomatch e)⟩
    cases x with
    | tup ys => cases hk
    | _ => rfl
  obtain ⟨ys, rfl⟩ : ∃ ys, x = .tup ys := ⟨_, tup_eq (by simpa using hk)⟩
  refine wW_or (wT_cmp (wE_callB (id := "len") TX.b_len (by decide +kernel) (wA_cons (wE_name 0 rfl (wA_nil ?_)))))
  refine wC_len (.tup _) ?_
  refine wE_int ?_
  refine wO_neI ?_
  refine ⟨_, rfl, ?_⟩
  refine ⟨fun hk => ?_, fun hk => ?_⟩
  · refine ⟨rfl, fun _ => isFr_not fun n d e => ?_, (fun e => nomatch e)⟩
    cases e
    cases hk
  obtain ⟨a, b, rfl⟩ : ∃ a b, ys = [a, b] := by
    have h2 : (ys.length : Int) = 2 := by simpa using hk
    exact ⟨_, _, len2 (by omega)⟩
  refine wW_or1 (wT_not (wT_val (wE_cal C__law_whole ar (by omega) (wA_cons (wE_ix (wE_name 0 rfl (wE_int ?_)))))))
  refine wI_tup (atI_pos (i := 0) (y := a) (by rfl) (by decide)) ?_
  refine wA_cons (wE_ix (wE_name 0 rfl (wE_int ?_)))
  refine wI_tup (atI_pos (i := 0) (y := a) (by rfl) (by decide)) ?_
  refine wA_cons (wE_ix (wE_name 0 rfl (wE_int ?_)))
  refine wI_tup (atI_pos (i := 0) (y := a) (by rfl) (by decide)) ?_
  refine wA_nil ?_
  refine ⟨zs, a, a, a, rfl, gd_get gd 0, hz, fun h => ?_, fun r hr => ?_⟩
  · cases a with
    | int i => exact ⟨i, i, rfl, rfl⟩
    | _ => cases h
  refine ⟨_, rfl, ?_⟩
  refine ⟨rfl, fun z => isFr_not fun n d e => ?_, fun z => ?_⟩
  · cases e
    rw [hr.mpr ⟨n, n, n, rfl, rfl, rfl, Int.le_refl _, Int.le_refl _⟩] at z; cases z
  · obtain ⟨i, j, k, rfl, _⟩ := hr.mp (by simpa using z)
    exact ⟨i, b, rfl⟩
  obtain ⟨rfl, g1, g2⟩ := hq
  refine ⟨fun hk => ?_, fun hk => ?_⟩
  refine wSs_cons (wS_ret (wE_bl ?_))
  rw [g1 hk] at q; exact q
  refine wSs_nil ?_
  refine wSs_cons (wS_if (wT_not (wT_val (wE_cal C__law_whole ar (by omega) (wA_cons (wE_ix (wE_name 0 rfl (wE_int ?_))))))))
  obtain ⟨i, b, rfl⟩ := g2 hk
  refine wI_tup (atI_pos (i := 1) (y := b) (by rfl) (by decide)) ?_
  refine wA_cons (wE_ix (wE_name 0 rfl (wE_int ?_)))
  refine wI_tup (atI_pos (i := 1) (y := b) (by rfl) (by decide)) ?_
  refine wA_cons (wE_ix (wE_name 0 rfl (wE_int ?_)))
  refine wI_tup (atI_pos (i := 1) (y := b) (by rfl) (by decide)) ?_
  refine wA_nil ?_
  refine ⟨zs, b, b, b, rfl, gd_get gd 1, hz, fun h => ?_, fun r hr => ?_⟩
  · cases b with
    | int i => exact ⟨i, i, rfl, rfl⟩
    | _ => cases h
  refine ⟨_, rfl, ?_⟩
  refine ⟨fun hk => ?_, fun hk => ?_⟩
  refine wSs_cons (wS_ret (wE_bl ?_))
  have hr0 : r = false := by simpa using hk
  have nofr : isFr (.tup [.int i, b]) = false := isFr_not fun n d e => by
    cases e
    rw [hr.mpr ⟨d, d, d, rfl, rfl, rfl, Int.le_refl _, Int.le_refl _⟩] at hr0; cases hr0
  rw [nofr] at q
  exact q
  refine wSs_nil ?_
  refine wSs_cons (wS_ret ?_)
  refine wE_and (wE_cmp (wE_ix (wE_name 0 rfl (wE_int ?_))))
  obtain ⟨d, j, k, rfl, _⟩ := hr.mp (by simpa using hk)
  refine wI_tup (atI_pos (i := 1) (y := .int d) (by rfl) (by decide)) ?_
  change Q (.bl (decide (0 < d) && decide (Int.gcd i d = 1))) μ at q
  refine wE_int ?_
  refine wO_gt ?_
  refine ⟨_, rfl, and_flip (fun hk => ?_) (fun hk => ?_)⟩
  · rw [hk] at q; exact q
  rw [hk, Bool.true_and] at q
  refine wE_one (wE_cmp (wE_cal C__law_common ar (by omega) (wA_cons (wE_ix (wE_name 0 rfl (wE_int ?_))))))
  refine wI_tup (atI_pos (i := 0) (y := .int i) (by rfl) (by decide)) ?_
  refine wA_cons (wE_ix (wE_name 0 rfl (wE_int ?_)))
  refine wI_tup (atI_pos (i := 1) (y := .int d) (by rfl) (by decide)) ?_
  refine wA_nil ?_
  refine ⟨i, d, rfl, ?_⟩
  refine wE_int ?_
  refine wO_eqI ?_
  rw [show decide (((Int.gcd i d : Nat) : Int) = 1) = decide (Int.gcd i d = 1) by rw [decide_eq_decide]; omega]
  exact q

abbrev s__law_is_doing : Stmt := topS 53
abbrev N__law_is_doing : List Str := ["_law_word", "_law_things", "_law_told", "_law_counts", "_law_taken", "_law_one"]
theorem sc__law_is_doing : FnScope N__law_is_doing ["_law_word", "_law_things", "_law_told", "_law_counts"] (defScope s__law_is_doing) := ⟨rfl, rfl, rfl, by decide +kernel, rfl, by decide +kernel, by decide +kernel⟩
abbrev LKA : List (Key × D.A) := LTAKE.map fun kv => ((.inr kv.1 : Key), D.A.int kv.2)
def c__law_is_doing : AC := fun xs μ Q _ => ∃ (zs : List Addr) (w ts : D.A) (t cp : Addr) (T : List Str) (Cn : List (Str × Int)), xs = [w, ts, .loc t, .loc cp] ∧ gdA zs w ∧ gdA zs ts ∧ Zs μ zs ∧ μ t = some (.lst (T.map D.A.str)) ∧ μ cp = some (.dic (Pk Cn)) ∧ ∀ μ', Sub μ μ' → Q (.bl (doingL Cn T w ts)) μ'
theorem ok__law_is_doing {n : Nat}  {f : Addr} {fd : FuncData} (TX : Txt K mg w CL CP CTL CTe CPr CPo CNV CTG CCo CS pT) (C__law_is_thing : Cal P w K mg base n "_law_is_thing" c__law_is_thing) (C__law_whole : Cal P w K mg base n "_law_whole" c__law_whole) (F : Fun K "_law_is_doing" "_law_is_doing" s__law_is_doing f fd) : FnD P w K mg base CX0 (n + 1) f fd ["_law_word", "_law_things", "_law_told", "_law_counts"] c__law_is_doing := by
  refine fnD F sc__law_is_doing (fun xs μ Q E hc => by obtain ⟨zs, w, ts, t, cp, T, Cn, rfl, gw, gt, hz0, ht0, hcp0, q⟩ := hc; rfl) (fun cdv Ao outer s H E xs μ Q E0 ar hc => ?_)
  obtain ⟨zs, w, ts, t, cp, T, Cn, rfl, gw, gt, hz0, ht0, hcp0, q⟩ := hc
  have nd := sc__law_is_doing.nd
  refine wSs_cons (wS_set 4 (wE_disp (wE_str (wE_int (wE_str (wE_int (wE_str (wE_int (wE_str (wE_int (wE_str (wE_int (wE_str (wE_int (wE_str (wE_int (wE_str (wE_int (wE_str (wE_int ?_))))))))))))))))))) nd)
  refine ⟨LTAKE.map fun kv => ((.inr kv.1 : Key), D.A.int kv.2), rfl, by decide, fun dp ndp => ?_⟩
  have s1 : Sub μ (μ.upd dp (.dic LKA)) := Sub.new ndp
  have hdp : (μ.upd dp (.dic LKA)) dp = some (.dic LKA) := Mu.upd_same
  change wSs _ _ _ _ (μ.upd dp (.dic LKA)) _
  generalize μ.upd dp (.dic LKA) = μ1 at s1 hdp ⊢
  have hz := hz0.sub s1
  have ht := s1 _ _ ht0
  have hcp := s1 _ _ hcp0
  have fin : ∀ b, doingL Cn T w ts = b → Q (.bl b) μ1 := fun b e => by rw [← e]; exact q μ1 s1
  obtain ⟨nm, t1, _, t2⟩ := gd_ty gw hz
  obtain ⟨nm2, t3, t4, _⟩ := gd_ty gt hz
  refine wSs_cons (wS_if ?_)
  refine wT.imp (QB := fun k μ' => μ1 = μ' ∧ (k = true → doingL Cn T w ts = false) ∧ (k = false → ∃ wd ys, w = .str wd ∧ ts = .tup ys)) ?_ (fun k μ' hq => ?_)
  refine wT_chain (wW_or (wT_not (wT_val (wE_callB (id := "isinstance") TX.b_isinstance (by decide +kernel) (wA_cons (wE_name 0 rfl (wA_cons (wE_type (n := "str") TX.b_str (by decide +kernel) (wA_nil ?_)))))))))
  refine wC_isi t1 t2 ?_
  refine ⟨_, rfl, ?_⟩
  refine ⟨fun hk => ?_, fun hk => ?_⟩
  · refine ⟨rfl, fun _ => ?_, (fun e => nomatch e)⟩
    unfold doingL
    rw [show isStrA w = false by simpa using hk]; rfl
  refine wW_or1 (wT_not (wT_val (wE_callB (id := "isinstance") TX.b_isinstance (by decide +kernel) (wA_cons (wE_name 1 rfl (wA_cons (wE_type (n := "tuple") TX.b_tuple (by decide +kernel) (wA_nil ?_))))))))
  refine wC_isi t3 t4 ?_
  refine ⟨_, rfl, ?_⟩
  refine ⟨rfl, fun z => ?_, fun z => ⟨_, _, str_eq (by simpa using hk), tup_eq (by simpa using z)⟩⟩
  unfold doingL
  rw [show isTupA ts = false by simpa using z, Bool.and_false]; rfl
  obtain ⟨rfl, hq1, hq2⟩ := hq
  refine ⟨fun hk => ?_, fun hk => ?_⟩
  refine wSs_cons (wS_ret (wE_bl ?_))
  exact fin false (hq1 hk)
  refine wSs_nil ?_
  refine wSs_cons (wS_if (wT_cmp (wE_name 0 rfl (wE_str ?_))))
  obtain ⟨wd, ys, rfl, rfl⟩ := hq2 hk
  obtain ⟨hl, hg⟩ := gd_tup gt
  have ed : doingL Cn T (.str wd) (.tup ys) = if wd = "power" then decide (ys.length = 2) && powA T ys else if wd = "call" then callL Cn T ys else decide ((valI LTAKE wd).getD 9 = (ys.length : Int)) && ys.all (thingA T) := rfl
  rw [ed] at fin
  refine wO_eqS ?_
  refine ⟨_, rfl, ?_⟩
  refine ⟨fun hk => ?_, fun hk => ?_⟩
  have ep : wd = "power" := of_decide_eq_true hk
  rw [if_pos ep] at fin
  refine wSs_cons (wS_ret ?_)
  refine wE_and (wE_cmp (wE_callB (id := "len") TX.b_len (by decide +kernel) (wA_cons (wE_name 1 rfl (wA_nil ?_)))))
  refine wC_len (.tup _) ?_
  refine wE_int ?_
  refine wO_eqI ?_
  refine ⟨_, rfl, and_flip (fun hk => ?_) (fun hk => ?_)⟩
  · refine fin false ?_
    rw [decide_eq_false fun z => by rw [z] at hk; cases hk]; rfl
  have l2 : ys.length = 2 := by
    have h2 : (ys.length : Int) = 2 := by simpa using hk
    omega
  rw [decide_eq_true l2, Bool.true_and] at fin
  refine wE_and (wE_cal C__law_is_thing ar (by omega) (wA_cons (wE_ix (wE_name 1 rfl (wE_int ?_)))))
  refine wI_tup (tup_at (i := 0) (by omega)) ?_
  refine wA_cons (wE_name 2 rfl (wA_nil ?_))
  refine ⟨zs, ys.getD 0 .non, t, T, rfl, gd_get gt 0, hz, ht, ?_⟩
  refine ⟨_, rfl, and_flip (fun hk => ?_) (fun hk => ?_)⟩
  · refine fin false ?_
    unfold powA
    rw [hk]; rfl
  have eth := hk
  refine wE_one (wE_cal C__law_whole ar (by omega) (wA_cons (wE_ix (wE_name 1 rfl (wE_int ?_)))))
  refine wI_tup (tup_at (i := 1) (by omega)) ?_
  refine wA_cons (wE_neg (wE_int ⟨_, rfl, (wA_cons (wE_int (wA_nil ?_)))⟩))
  refine ⟨zs, ys.getD 1 .non, .int (-8), .int 8, rfl, gd_get gt 1, hz, fun _ => ⟨_, _, rfl, rfl⟩, fun r hr => ?_⟩
  refine fin r ?_
  unfold powA
  rw [eth, Bool.true_and]
  rw [Bool.eq_iff_iff, hr]
  refine ⟨fun h => ?_, fun ⟨i, j, k, e1, e2, e3, h1, h2⟩ => ?_⟩
  · obtain ⟨i, e, h1, h2⟩ := among_int h
    exact ⟨i, _, _, e, rfl, rfl, h1, h2⟩
  · cases e2; cases e3
    rw [e1]
    show (decide _ && decide _) = true
    rw [decide_eq_true h1, decide_eq_true h2]; rfl
  refine wSs_nil ?_
  have np : wd ≠ "power" := of_decide_eq_false hk
  rw [if_neg np] at fin
  refine wSs_cut (fun Γ' μ' => ∃ us x5, Γ' = [some (.str wd), some (.tup us), some (.loc t), some (.loc cp), x5, none] ∧ μ1 = μ' ∧ (us.length ≤ 1000 ∧ ∀ u ∈ us, gdA zs u) ∧ Q (.bl (us.all (thingA T))) μ1) ?_ (fun Γ' μ' hP => ?_)
  refine wS_if (wT_cmp (wE_name 0 rfl (wE_str ?_)))
  refine wO_eqS ?_
  refine ⟨_, rfl, ?_⟩
  refine ⟨fun hk => ?_, fun hk => ?_⟩
  have ec : wd = "call" := of_decide_eq_true hk
  rw [if_pos ec] at fin
  refine wSs_cons (wS_if ?_)
  refine wT.imp (QB := fun k μ' => μ1 = μ' ∧ (k = true → callL Cn T ys = false) ∧ (k = false → ∃ c r, ys = .str c :: r ∧ (valI Cn c).getD 9 = (r.length : Int))) ?_ (fun k μ' hq => ?_)
  refine wT_chain (wW_or (wT_cmp (wE_name 1 rfl (wE_tup (wA_nil ⟨by show 0 ≤ sizeLine; decide, ?_⟩)))))
  refine wO_eqNone ar.u64 ?_
  refine ⟨_, rfl, ?_⟩
  refine ⟨fun hk => ?_, fun hk => ?_⟩
  · refine ⟨rfl, fun _ => ?_, (fun e => nomatch e)⟩
    cases ys with
    | nil => rfl
    | cons y r => cases hk
  obtain ⟨y, r, rfl⟩ : ∃ y r, ys = y :: r := by
    cases ys with
    | nil => cases hk
    | cons y r => exact ⟨y, r, rfl⟩
  obtain ⟨nm5, t5, _, t6⟩ := gd_ty (hg y (.head _)) hz
  refine wW_or (wT_not (wT_val (wE_callB (id := "isinstance") TX.b_isinstance (by decide +kernel) (wA_cons (wE_ix (wE_name 1 rfl (wE_int ?_)))))))
  refine wI_tup (atI_pos (i := 0) (y := y) (by rfl) (by decide)) ?_
  refine wA_cons (wE_type (n := "str") TX.b_str (by decide +kernel) (wA_nil ?_))
  refine wC_isi t5 t6 ?_
  refine ⟨_, rfl, ?_⟩
  refine ⟨fun hk => ?_, fun hk => ?_⟩
  · refine ⟨rfl, fun _ => ?_, (fun e => nomatch e)⟩
    cases y with
    | str w => cases hk
    | _ => rfl
  obtain ⟨c, rfl⟩ : ∃ c, y = .str c := ⟨_, str_eq (by simpa using hk)⟩
  refine wW_or1 (wT_cmp (wE_dget2 ar (wE_name 3 rfl ?_)))
  refine ⟨cp, _, rfl, hcp, ?_⟩
  refine wE_ix (wE_name 1 rfl (wE_int ?_))
  refine wI_tup (atI_pos (i := 0) (y := .str c) (by rfl) (by decide)) ?_
  refine wE_int ?_
  refine ⟨_, .inr c, hcp, rfl, ?_⟩
  rw [valA_Pk, show ((valI Cn c).map D.A.int).getD (.int 9) = .int ((valI Cn c).getD 9) by cases valI Cn c <;> rfl]
  refine wE_bin (wE_callB (id := "len") TX.b_len (by decide +kernel) (wA_cons (wE_name 1 rfl (wA_nil ?_))))
  refine wC_len (.tup _) ?_
  refine wE_int ?_
  refine wO_sub ?_
  refine wO_neI ?_
  refine ⟨_, rfl, ?_⟩
  have e : ((D.A.str c :: r).length : Int) - 1 = (r.length : Int) := by rw [List.length_cons]; omega
  rw [e]
  refine ⟨rfl, fun z => ?_, fun z => ⟨c, r, rfl, by simpa using z⟩⟩
  show (decide _ && _) = false
  rw [decide_eq_false fun w => by rw [decide_eq_true w] at z; cases z]; rfl
  obtain ⟨rfl, hq3, hq4⟩ := hq
  refine ⟨fun hk => ?_, fun hk => ?_⟩
  refine wSs_cons (wS_ret (wE_bl ?_))
  exact fin false (hq3 hk)
  refine wSs_nil ?_
  refine wSs_cons (wS_set 1 (wE_slice (wE_name 1 rfl (wE_int ⟨_, rfl, ?_⟩))) nd)
  obtain ⟨c, r, rfl, hv⟩ := hq4 hk
  refine wSl_tup ?_
  rw [show cutA (D.A.str c :: r) (some 1) none = r by rw [cut1]; rfl]
  refine wSs_nil ?_
  refine ⟨r, _, rfl, rfl, ⟨by rw [List.length_cons] at hl; omega, fun u hu => hg u (.tail _ hu)⟩, fin _ ?_⟩
  show (decide _ && _) = _
  rw [decide_eq_true hv, Bool.true_and]
  have nc : wd ≠ "call" := of_decide_eq_false hk
  rw [if_neg nc] at fin
  refine wSs_cons (wS_if (wT_cmp (wE_dget2 ar (wE_name 4 rfl ?_))))
  refine ⟨dp, _, rfl, hdp, ?_⟩
  refine wE_name 0 rfl (wE_int ?_)
  refine ⟨_, .inr wd, hdp, rfl, ?_⟩
  rw [show LKA = Pk LTAKE from rfl, valA_Pk, show ((valI LTAKE wd).map D.A.int).getD (.int 9) = .int ((valI LTAKE wd).getD 9) by cases valI LTAKE wd <;> rfl]
  refine wE_callB (id := "len") TX.b_len (by decide +kernel) (wA_cons (wE_name 1 rfl (wA_nil ?_)))
  refine wC_len (.tup _) ?_
  refine wO_neI ?_
  refine ⟨_, rfl, ?_⟩
  refine ⟨fun hk => ?_, fun hk => ?_⟩
  refine wSs_cons (wS_ret (wE_bl ?_))
  refine fin false ?_
  rw [decide_eq_false fun w => by rw [decide_eq_true w] at hk; cases hk]; rfl
  refine wSs_nil ?_
  refine wSs_nil ?_
  refine ⟨ys, _, rfl, rfl, ⟨hl, hg⟩, fin _ ?_⟩
  rw [decide_eq_true (by simpa using hk), Bool.true_and]
  obtain ⟨us, x5, rfl, rfl, ⟨hul, hug⟩, qq⟩ := hP
  refine wSs_cons (wS_ret (wE_cmp (wE_lcPF (own := [("_law_one", 5)]) (wIt_tup (wE_name 1 rfl ⟨_, rfl, ?_⟩)) nd (blkOk_by (N := N__law_is_doing) (sc := defScope s__law_is_doing) (by decide +kernel)))))
  refine ⟨szOk (by omega), us.map fun y => !thingA T y, us, by simp, rfl, fun j y k z hy hk2 hz2 s0 H0 C cl fp => ?_, ?_⟩
  obtain ⟨y2, h4, rfl⟩ := map_at hk2
  obtain rfl : y = y2 := Option.some.inj (hy.symm.trans h4)
  obtain rfl : y = z := Option.some.inj (hy.symm.trans hz2)
  refine wGw_name 5 (⟨rfl, ?_⟩) nd
  refine ⟨fun s0 H0 C cl fp => ?_, fun kt s0 H0 C cl fp => ?_⟩
  refine wT_not (wT_val (wE_cal C__law_is_thing ar.bk (by omega) (wA_cons (wE_name 5 rfl (wA_cons (wE_name 2 rfl (wA_nil ?_)))))))
  refine ⟨zs, y, t, T, rfl, hug y (List.mem_of_getElem? hy), hz, ht, ?_⟩
  refine ⟨_, rfl, ?_⟩
  exact ⟨rfl, .refl _⟩
  refine wE_name 5 rfl ?_
  refine ⟨?_, .refl _⟩
  rfl
  refine wE_lstF (wA_nil ⟨by show 0 ≤ sizeLine; decide, ?_⟩)
  refine wO_eqNoneL ar.u64 ?_
  rw [pick_empty _ _ (by simp), List.all_map]
  rw [show (us.all ((fun k => !k) ∘ fun y => !thingA T y)) = us.all (thingA T) by congr 1; funext y; simp]
  exact qq

end
end D

namespace D
open PySem PySem.Spec PyProof.Rows L2
local macro_rules | `(tactic| walk_at "mul") => `(tactic| first | refine wO_mul (mulR (by first | decide | omega) (by first | decide | omega)) ?_ | refine wO_mul (mulL (by first | decide | omega) (by first | decide | omega)) ?_)
local macro_rules | `(tactic| walk_at "mod") => `(tactic| refine wO_mod (by first | decide | omega) ?_)
local macro_rules | `(tactic| walk_at "fdiv") => `(tactic| refine wO_fdiv (by first | decide | omega) (divS (by first | decide | omega)) ?_)
local macro_rules | `(tactic| walk_at "ix") => `(tactic| first | refine wI_tup (by rfl) ?_ | refine wI_lst (by rfl) ?_)
local macro_rules | `(tactic| walk_at "sl") => `(tactic| first | refine wSl_tup ?_ | refine wSl_lstF ?_)
local macro_rules | `(tactic| walk_at "obj") => `(tactic| refine ⟨_, _, _, rfl, by assumption, rfl, ?_⟩)
local macro_rules | `(tactic| walk_at "len") => `(tactic| first | refine wC_len (.tup _) ?_ | refine wC_len (.lst _) ?_ | refine wC_len (.loc (by assumption)) ?_)
section
variable {P : Program} {w : World} {mg : Str → Option Value} {base : Heap} {K : PySem.W.Frag} {CL CP CTL CTe CPr CPo CNV CTG CCo CS pT : Addr} {k : Nat}
abbrev s__law_body_told : Stmt := topS 54
abbrev N__law_body_told : List Str := ["_law_body_here", "_law_told", "_law_counts", "_law_deep", "_law_many_here", "_law_item"]
theorem sc__law_body_told : FnScope N__law_body_told ["_law_body_here", "_law_told", "_law_counts", "_law_deep"] (defScope s__law_body_told) := ⟨rfl, rfl, rfl, by decide +kernel, rfl, by decide +kernel, by decide +kernel⟩
def But1 (p : Addr) (μ μ' : Mu) : Prop := ∀ q o, q ≠ p → μ q = some o → μ' q = some o
theorem But1.trans {p : Addr} {a b c : Mu} (h : But1 p a b) (k : But1 p b c) : But1 p a c := fun q o n e => k q o n (h q o n e)
theorem But1.of {p : Addr} {a b : Mu} (s : Sub a b) : But1 p a b := fun q o _ e => s q o e
structure LwS (t cp : Addr) (zs : List Addr) (Cn : List (Str × Int)) (T : List Str) (μ : Mu) : Prop where
  ht : μ t = some (.lst (T.map D.A.str))
  hc : μ cp = some (.dic (Pk Cn))
  ne : cp ≠ t
  tz : t ∉ zs
  z : Zs μ zs
theorem LwS.to {t cp : Addr} {zs : List Addr} {Cn : List (Str × Int)} {T T' : List Str} {μ μ' : Mu} (h : LwS t cp zs Cn T μ) (b : But1 t μ μ') (e : μ' t = some (.lst (T'.map D.A.str))) : LwS t cp zs Cn T' μ' :=
  ⟨e, b _ _ h.ne h.hc, h.ne, h.tz, fun p hp => b p _ (fun e => h.tz (by rw [← e]; exact hp)) (h.z p hp)⟩
def recL (Cn : List (Str × Int)) (d : Nat) : Option (D.A → List Str → Nat × List Str) := if d < 3 then some (bodyL Cn (3 - (d + 1))) else none
theorem goLk_eq {Cn : List (Str × Int)} {d : Nat} (h : d ≤ 3) : goLk Cn (3 - d) = goL Cn (recL Cn d) := by
  unfold recL
  by_cases c : d < 3
  · rw [if_pos c, show 3 - d = (3 - (d + 1)) + 1 by omega]; rfl
  · rw [if_neg c, show 3 - d = 0 by omega]; rfl
theorem shl_get (ys : List D.A) (i : Nat) : shl (ys.getD i .non) ≤ shls ys + 4 := by
  rw [List.getD_eq_getElem?_getD]
  cases e : ys[i]? with
  | none => exact Nat.le_add_left _ _
  | some y => have := shls_in (List.mem_of_getElem? e); show shl y ≤ _; omega
theorem shl_getT {ys : List D.A} {i : Nat} (h : i < ys.length) : shl (ys.getD i .non) ≤ shls ys := by
  rw [List.getD_eq_getElem?_getD, List.getElem?_eq_getElem h]
  exact shls_in (List.getElem_mem h)
theorem goL_no {Cn : List (Str × Int)} {rec : Option (D.A → List Str → Nat × List Str)} {y : D.A} {T : List Str} (h : stepL Cn rec y T = none) (xs : List D.A) (n : Nat) : goL Cn rec (y :: xs) n T = (1000, T) := by rw [goL, h]
theorem goL_on {Cn : List (Str × Int)} {rec : Option (D.A → List Str → Nat × List Str)} {y : D.A} {T : List Str} {q : Nat × List Str} (h : stepL Cn rec y T = some q) (xs : List D.A) (n : Nat) : goL Cn rec (y :: xs) n T = goL Cn rec xs (n + q.1) q.2 := by rw [goL, h]
def c__law_body_told (lo : Nat) : AC := fun xs μ Q _ => ∃ (zs : List Addr) (x : D.A) (t cp : Addr) (T : List Str) (Cn : List (Str × Int)) (d : Nat), xs = [x, .loc t, .loc cp, .int (d : Int)] ∧ gdA zs x ∧ LwS t cp zs Cn T μ ∧ lo ≤ d ∧ d ≤ 3 ∧ T.length + shl x ≤ 10 ^ 7 ∧ ∀ μ', LwS t cp zs Cn (bodyL Cn (3 - d) x T).2 μ' → (bodyL Cn (3 - d) x T).2.length ≤ T.length + shl x → But1 t μ μ' → Q (.int ((bodyL Cn (3 - d) x T).1 : Nat)) μ'
theorem ok__law_body_told {n : Nat} {lo : Nat} {f : Addr} {fd : FuncData} (TX : Txt K mg w CL CP CTL CTe CPr CPo CNV CTG CCo CS pT) (C__law_whole : Cal P w K mg base n "_law_whole" c__law_whole) (C__law_body_told : Cal P w K mg base n "_law_body_told" (c__law_body_told (lo + 1))) (C__law_is_name : Cal P w K mg base n "_law_is_name" c__law_is_name) (C__law_is_doing : Cal P w K mg base n "_law_is_doing" c__law_is_doing) (F : Fun K "_law_body_told" "_law_body_told" s__law_body_told f fd) : FnD P w K mg base CX0 (n + 1) f fd ["_law_body_here", "_law_told", "_law_counts", "_law_deep"] (c__law_body_told lo) := by
  refine fnD F sc__law_body_told (fun xs μ Q E hc => by obtain ⟨zs, x, t, cp, T, Cn, d, rfl, gd, S, hlo, hd3, hlen, q⟩ := hc; rfl) (fun cdv Ao outer s H E xs μ Q E0 ar hc => ?_)
  obtain ⟨zs, x, t, cp, T, Cn, d, rfl, gd, S, hlo, hd3, hlen, q⟩ := hc
  obtain ⟨nm, t1, t2, _⟩ := gd_ty gd S.z
  have nd := sc__law_body_told.nd
  refine wSs_cons (wS_if (wT_not (wT_val (wE_callB (id := "isinstance") TX.b_isinstance (by decide +kernel) (wA_cons (wE_name 0 rfl (wA_cons (wE_type (n := "tuple") TX.b_tuple (by decide +kernel) (wA_nil ?_)))))))))
  refine wC_isi t1 t2 ?_
  refine ⟨_, rfl, ?_⟩
  refine ⟨fun hk => ?_, fun hk => ?_⟩
  refine wSs_cons (wS_ret (wE_int ?_))
  have e : bodyL Cn (3 - d) x T = (1000, T) := by unfold bodyL bodyLW; exact if_neg (by simpa using hk)
  rw [e] at q
  exact q μ S (by simp only; omega) (But1.of (.refl _))
  obtain ⟨ys, rfl⟩ : ∃ ys, x = .tup ys := ⟨_, tup_eq (by simpa using hk)⟩
  obtain ⟨hl, hg⟩ := gd_tup gd
  have eb : bodyL Cn (3 - d) (.tup ys) T = goL Cn (recL Cn d) ys 0 T := by
    unfold bodyL bodyLW
    rw [if_pos (show isTupA (.tup ys) = true from rfl), goLk_eq hd3]; rfl
  rw [eb] at q
  have hlen2 : T.length + shls ys + 3 ≤ 10 ^ 7 := by simp only [shl] at hlen; omega
  have fin : ∀ (n : Nat) (T' : List Str) μ', goL Cn (recL Cn d) ys 0 T = (n, T') → LwS t cp zs Cn T' μ' → T'.length ≤ T.length + shls ys → But1 t μ μ' → Q (.int (n : Nat)) μ' := fun n T' μ' e h1 h2 h3 => by
    rw [e] at q
    exact q μ' h1 (by simp only [shl]; omega) h3
  refine wSs_nil ?_
  refine wSs_cons (wS_set 4 (wE_int (wSs_cons (wS_for (wIt_tup (wE_name 0 rfl ⟨_, rfl, ?_⟩))))) nd)
  refine ⟨fun i Γ' μ' => ∃ (n : Nat) (Ti : List Str) (x5 : Option D.A), Γ' = [some (.tup ys), some (.loc t), some (.loc cp), some (.int (d : Int)), some (.int (n : Int)), x5] ∧ goL Cn (recL Cn d) ys 0 T = goL Cn (recL Cn d) (ys.drop i) n Ti ∧ LwS t cp zs Cn Ti μ' ∧ Ti.length + shls (ys.drop i) ≤ T.length + shls ys ∧ But1 t μ μ', ⟨0, T, _, rfl, rfl, S, Nat.le_refl _, But1.of (.refl _)⟩, fun i y Γ' μ' hy hI => ?_, fun Γ' μ' hI => ?_⟩
  obtain ⟨n, Ti, x5, rfl, eg, Si, hli, bi⟩ := hI
  have ed : ys.drop i = y :: ys.drop (i + 1) := by
    have hlt := (List.getElem?_eq_some_iff.mp hy).1
    rw [List.drop_eq_getElem_cons hlt]
    rw [List.getElem?_eq_getElem hlt] at hy
    rw [Option.some.inj hy]
  rw [ed] at eg hli
  simp only [shls] at hli
  have gy := hg y (List.mem_of_getElem? hy)
  obtain ⟨nm2, t3, t4, _⟩ := gd_ty gy Si.z
  have stop : stepL Cn (recL Cn d) y Ti = none → Q (.int (1000 : Nat)) μ' := fun h => fin 1000 Ti μ' (by rw [eg, goL_no h]) Si (by omega) bi
  refine wG_name 5 ?_ nd
  refine wSs_cons (wS_set 4 (wE_bin (wE_name 4 rfl (wE_int ?_))) nd)
  refine wO_add ?_
  refine wSs_cons (wS_if ?_)
  refine wT.imp (QB := fun k μ2 => μ' = μ2 ∧ (k = true → stepL Cn (recL Cn d) y Ti = none) ∧ (k = false → ∃ us, y = .tup us ∧ 0 < us.length ∧ isStrA (us.getD 0 .non) = true)) ?_ (fun k μ2 hq => ?_)
  refine wT_chain (wW_or (wT_not (wT_val (wE_callB (id := "isinstance") TX.b_isinstance (by decide +kernel) (wA_cons (wE_name 5 rfl (wA_cons (wE_type (n := "tuple") TX.b_tuple (by decide +kernel) (wA_nil ?_)))))))))
  refine wC_isi t3 t4 ?_
  refine ⟨_, rfl, ?_⟩
  refine ⟨fun hk => ?_, fun hk => ?_⟩
  · refine ⟨rfl, fun _ => ?_, (fun e => nomatch e)⟩
    have nt : tupOf y = [] := by cases y with
      | tup us => cases hk
      | _ => rfl
    unfold stepL
    rw [nt]; rfl
  obtain ⟨us, rfl⟩ : ∃ us, y = .tup us := ⟨_, tup_eq (by simpa using hk)⟩
  refine wW_or (wT_cmp (wE_name 5 rfl (wE_tup (wA_nil ⟨by show 0 ≤ sizeLine; decide, ?_⟩))))
  refine wO_eqNone ar.u64 ?_
  refine ⟨_, rfl, ?_⟩
  refine ⟨fun hk => ?_, fun hk => ?_⟩
  · refine ⟨rfl, fun _ => ?_, (fun e => nomatch e)⟩
    have nt : us = [] := List.isEmpty_iff.mp hk
    subst nt
    rfl
  have pos : 0 < us.length := List.length_pos_iff.mpr fun e => by rw [e] at hk; cases hk
  refine wW_or1 (wT_not (wT_val (wE_callB (id := "isinstance") TX.b_isinstance (by decide +kernel) (wA_cons (wE_ix (wE_name 5 rfl (wE_int ?_)))))))
  refine wI_tup (tup_at (i := 0) pos) ?_
  obtain ⟨nm3, t5, _, t6⟩ := gd_ty (gd_get gy 0) Si.z
  refine wA_cons (wE_type (n := "str") TX.b_str (by decide +kernel) (wA_nil ?_))
  refine wC_isi t5 t6 ?_
  refine ⟨_, rfl, ?_⟩
  refine ⟨rfl, fun z => ?_, fun z => ⟨us, rfl, pos, ?_⟩⟩
  · have ns : ¬ isStrA (us.getD 0 .non) = true := fun e => by
      have z2 : (!isStrA (us.getD 0 .non)) = true := z
      rw [e] at z2; cases z2
    unfold stepL
    exact if_neg ns
  · have z2 : (!isStrA (us.getD 0 .non)) = false := z
    simpa using z2
  obtain ⟨rfl, g1, g2⟩ := hq
  refine ⟨fun hk => ?_, fun hk => ?_⟩
  refine wSs_cons (wS_ret (wE_int ?_))
  exact stop (g1 hk)
  refine wSs_nil ?_
  obtain ⟨us, rfl, pos, c1⟩ := g2 hk
  refine wSs_cut (fun Γ' μ2 => ∃ (q : Nat × List Str), Γ' = [some (.tup ys), some (.loc t), some (.loc cp), some (.int (d : Int)), some (.int ((n + q.1 : Nat) : Int)), some (.tup us)] ∧ stepL Cn (recL Cn d) (.tup us) Ti = some q ∧ LwS t cp zs Cn q.2 μ2 ∧ q.2.length ≤ Ti.length + shl (.tup us) ∧ But1 t μ' μ2) ?_ (fun Γ' μ2 hP => ?_)
  refine wS_if ?_
  refine wT.imp (QB := fun k μ2 => μ' = μ2 ∧ k = decide ((tagA "repeat" (us.getD 0 .non) = true ∧ us.length = 3) ∧ d < 3 ∧ amongA 1 200 (us.getD 1 .non) = true)) ?_ (fun k μ2 hq => ?_)
  refine wT_chain (wW_and (wT_cmp (wE_ix (wE_name 5 rfl (wE_int ?_)))))
  refine wI_tup (tup_at (i := 0) pos) ?_
  refine wE_str ?_
  refine wO_eqT ar.u64 (by decide +kernel) (gd_get gy 0) Si.z ?_
  refine ⟨_, rfl, ?_⟩
  refine and_flip (fun hk => ?_) (fun hk => ?_)
  · exact ⟨rfl, (decide_eq_false fun z => by rw [show tagA "repeat" (us.getD 0 .non) = false from hk] at z; cases z.1.1).symm⟩
  have rp : tagA "repeat" (us.getD 0 .non) = true := hk
  refine wW_and (wT_cmp (wE_callB (id := "len") TX.b_len (by decide +kernel) (wA_cons (wE_name 5 rfl (wA_nil ?_)))))
  refine wC_len (.tup _) ?_
  refine wE_int ?_
  refine wO_eqI ?_
  refine ⟨_, rfl, ?_⟩
  refine and_flip (fun hk => ?_) (fun hk => ?_)
  · exact ⟨rfl, (decide_eq_false fun z => by rw [decide_eq_true (show (us.length : Int) = 3 by omega)] at hk; cases hk).symm⟩
  have l3 : us.length = 3 := by
    have h3 : (us.length : Int) = 3 := of_decide_eq_true hk
    omega
  refine wW_and (wT_cmp (wE_name 3 rfl (wE_int ?_)))
  refine wO_lt ?_
  refine ⟨_, rfl, ?_⟩
  refine and_flip (fun hk => ?_) (fun hk => ?_)
  · exact ⟨rfl, (decide_eq_false fun z => by have := of_decide_eq_false hk; omega).symm⟩
  have d3 : d < 3 := by
    have := of_decide_eq_true hk
    omega
  refine wW_and1 (wT_val (wE_cal C__law_whole ar (by omega) (wA_cons (wE_ix (wE_name 5 rfl (wE_int ?_))))))
  refine wI_tup (tup_at (i := 1) (by omega)) ?_
  refine wA_cons (wE_int (wA_cons (wE_int (wA_nil ?_))))
  refine ⟨zs, us.getD 1 .non, .int 1, .int 200, rfl, gd_get gy 1, Si.z, fun _ => ⟨_, _, rfl, rfl⟩, fun r hr => ?_⟩
  refine ⟨_, rfl, ?_⟩
  refine ⟨rfl, ?_⟩
  rw [Bool.eq_iff_iff, hr, decide_eq_true_eq]
  refine ⟨fun ⟨i, j, k, e1, e2, e3, h1, h2⟩ => ⟨⟨rp, l3⟩, d3, ?_⟩, fun z => ?_⟩
  · cases e2; cases e3
    rw [e1]
    show (decide _ && decide _) = true
    rw [decide_eq_true h1, decide_eq_true h2]; rfl
  · obtain ⟨i, e, h1, h2⟩ := among_int z.2.2
    exact ⟨i, _, _, e, rfl, rfl, h1, h2⟩
  obtain ⟨rfl, rfl⟩ := hq
  refine ⟨fun hk => ?_, fun hk => ?_⟩
  refine wSs_cons (wS_set 4 (wE_bin (wE_name 4 rfl (wE_cal C__law_body_told ar (by omega) (wA_cons (wE_ix (wE_name 5 rfl (wE_int ?_))))))) nd)
  obtain ⟨c2, d3, c3⟩ := of_decide_eq_true hk
  refine wI_tup (tup_at (i := 2) (by omega)) ?_
  refine wA_cons (wE_name 1 rfl (wA_cons (wE_name 2 rfl (wA_cons (wE_bin (wE_name 3 rfl (wE_int ?_)))))))
  refine wO_add ?_
  refine wA_nil ?_
  have hb2 := shl_getT (ys := us) (i := 2) (by omega)
  refine ⟨zs, us.getD 2 .non, t, cp, Ti, Cn, d + 1, rfl, gd_get gy 2, Si, by omega, by omega, by simp only [shl] at hli; omega, fun μ3 S3 l3 b3 => ?_⟩
  refine wO_add ?_
  refine wSs_nil ?_
  refine ⟨(1 + (bodyL Cn (3 - (d + 1)) (us.getD 2 .non) Ti).1, (bodyL Cn (3 - (d + 1)) (us.getD 2 .non) Ti).2), ?_, ?_, S3, ?_, b3⟩
  · have e : (n : Int) + 1 + ((bodyL Cn (3 - (d + 1)) (us.getD 2 .non) Ti).1 : Int) = ((n + (1 + (bodyL Cn (3 - (d + 1)) (us.getD 2 .non) Ti).1) : Nat) : Int) := by omega
    rw [← e]; rfl
  · unfold stepL
    show (if isStrA (us.getD 0 .non) = true then _ else _) = _
    rw [if_pos c1]
    refine (if_pos c2).trans ((if_pos c3).trans ?_)
    unfold recL
    rw [if_pos d3]; rfl
  · simp only [shl]; omega
  have no : ¬ ((tagA "repeat" (us.getD 0 .non) = true ∧ us.length = 3) ∧ d < 3 ∧ amongA 1 200 (us.getD 1 .non) = true) := of_decide_eq_false hk
  have norep : (tagA "repeat" (us.getD 0 .non) = true ∧ us.length = 3) → stepL Cn (recL Cn d) (.tup us) Ti = none := fun c2 => by
    unfold stepL
    show (if isStrA (us.getD 0 .non) = true then _ else _) = _
    rw [if_pos c1]
    refine (if_pos c2).trans ?_
    by_cases c3 : amongA 1 200 (us.getD 1 .non) = true
    · refine (if_pos c3).trans ?_
      unfold recL
      rw [if_neg fun z => no ⟨c2, z, c3⟩]; rfl
    · exact if_neg c3
  refine wSs_cons (wS_if ?_)
  refine wT.imp (QB := fun k μ2 => μ' = μ2 ∧ k = decide (tagA "row" (us.getD 0 .non) = true ∧ us.length = 4 ∧ isNm (us.getD 1 .non) = true)) ?_ (fun k μ2 hq => ?_)
  refine wT_chain (wW_and (wT_cmp (wE_ix (wE_name 5 rfl (wE_int ?_)))))
  refine wI_tup (tup_at (i := 0) pos) ?_
  refine wE_str ?_
  refine wO_eqT ar.u64 (by decide +kernel) (gd_get gy 0) Si.z ?_
  refine ⟨_, rfl, ?_⟩
  refine and_flip (fun hk => ?_) (fun hk => ?_)
  · exact ⟨rfl, (decide_eq_false fun z => by rw [show tagA "row" (us.getD 0 .non) = false from hk] at z; cases z.1).symm⟩
  have rw1 : tagA "row" (us.getD 0 .non) = true := hk
  refine wW_and (wT_cmp (wE_callB (id := "len") TX.b_len (by decide +kernel) (wA_cons (wE_name 5 rfl (wA_nil ?_)))))
  refine wC_len (.tup _) ?_
  refine wE_int ?_
  refine wO_eqI ?_
  refine ⟨_, rfl, ?_⟩
  refine and_flip (fun hk => ?_) (fun hk => ?_)
  · exact ⟨rfl, (decide_eq_false fun z => by rw [decide_eq_true (show (us.length : Int) = 4 by omega)] at hk; cases hk).symm⟩
  have l4 : us.length = 4 := by
    have h4 : (us.length : Int) = 4 := of_decide_eq_true hk
    omega
  refine wW_and1 (wT_val (wE_cal C__law_is_name ar (by omega) (wA_cons (wE_ix (wE_name 5 rfl (wE_int ?_))))))
  refine wI_tup (tup_at (i := 1) (by omega)) ?_
  refine wA_nil ?_
  refine ⟨zs, us.getD 1 .non, rfl, gd_get gy 1, Si.z, ?_⟩
  refine ⟨_, rfl, ?_⟩
  refine ⟨rfl, ?_⟩
  cases e : isNm (us.getD 1 .non) with
  | true => exact (decide_eq_true ⟨rw1, l4, rfl⟩).symm
  | false => exact (decide_eq_false fun z => nomatch z.2.2).symm
  obtain ⟨rfl, rfl⟩ := hq
  refine ⟨fun hk => ?_, fun hk => ?_⟩
  refine wSs_cons (wS_if (wT_not (wT_val (wE_cal C__law_is_doing ar (by omega) (wA_cons (wE_ix (wE_name 5 rfl (wE_int ?_))))))))
  obtain ⟨r0, l4, r1⟩ := of_decide_eq_true hk
  have nrep : ¬ (tagA "repeat" (us.getD 0 .non) = true ∧ us.length = 3) := fun z => by omega
  have est : stepL Cn (recL Cn d) (.tup us) Ti = if doingL Cn Ti (us.getD 2 .non) (us.getD 3 .non) = true then some (1, Ti ++ [wdO (us.getD 1 .non)]) else none := by
    unfold stepL
    show (if isStrA (us.getD 0 .non) = true then _ else _) = _
    rw [if_pos c1]
    refine (if_neg nrep).trans ?_
    by_cases dd : doingL Cn Ti (us.getD 2 .non) (us.getD 3 .non) = true
    · rw [if_pos dd]; exact if_pos ⟨r0, l4, r1, dd⟩
    · rw [if_neg dd]; exact if_neg fun z => dd z.2.2.2
  refine wI_tup (tup_at (i := 2) (by omega)) ?_
  refine wA_cons (wE_ix (wE_name 5 rfl (wE_int ?_)))
  refine wI_tup (tup_at (i := 3) (by omega)) ?_
  refine wA_cons (wE_name 1 rfl (wA_cons (wE_name 2 rfl (wA_nil ?_))))
  refine ⟨zs, us.getD 2 .non, us.getD 3 .non, t, cp, Ti, Cn, rfl, gd_get gy 2, gd_get gy 3, Si.z, Si.ht, Si.hc, fun μ3 s3 => ?_⟩
  refine ⟨_, rfl, ?_⟩
  refine ⟨fun hk => ?_, fun hk => ?_⟩
  refine wSs_cons (wS_ret (wE_int ?_))
  have nd0 : doingL Cn Ti (us.getD 2 .non) (us.getD 3 .non) = false := by simpa using hk
  have h := est
  rw [if_neg (by rw [nd0]; exact Bool.false_ne_true)] at h
  exact fin 1000 Ti μ3 (by rw [eg, goL_no h]) (Si.to (But1.of s3) (s3 _ _ Si.ht)) (by omega) (bi.trans (But1.of s3))
  refine wSs_nil ?_
  refine wSs_cons (wS_expr (wE_append (wE_name 1 rfl ?_)))
  have dd : doingL Cn Ti (us.getD 2 .non) (us.getD 3 .non) = true := by simpa using hk
  rw [if_pos dd] at est
  obtain ⟨nw, enw, hnw⟩ := nm_str r1
  rw [enw] at est
  refine ⟨_, _, rfl, s3 _ _ Si.ht, ?_⟩
  refine wE_ix (wE_name 5 rfl (wE_int ?_))
  refine wI_tup (xs := us) (y := .str nw) (by rw [← enw]; exact tup_at (i := 1) (by omega)) ?_
  refine ⟨_, s3 _ _ Si.ht, szLt (by rw [List.length_map]; omega), ?_⟩
  refine wSs_nil ?_
  refine wSs_nil ?_
  refine ⟨(1, Ti ++ [nw]), rfl, est, Si.to (fun q o h1 h2 => by rw [Mu.upd_ne h1]; exact s3 q o h2) (by rw [List.map_append]; exact Mu.upd_same), by rw [List.length_append, List.length_singleton]; simp only [shl]; omega, fun q o h1 h2 => by rw [Mu.upd_ne h1]; exact s3 q o h2⟩
  refine wSs_cons (wS_ret (wE_int ?_))
  have nr : ¬ (tagA "row" (us.getD 0 .non) = true ∧ us.length = 4 ∧ isNm (us.getD 1 .non) = true) := of_decide_eq_false hk
  refine stop ?_
  by_cases c2 : tagA "repeat" (us.getD 0 .non) = true ∧ us.length = 3
  · exact norep c2
  · unfold stepL
    show (if isStrA (us.getD 0 .non) = true then _ else _) = _
    rw [if_pos c1]
    exact (if_neg c2).trans (if_neg fun z => nr ⟨z.1, z.2.1, z.2.2.1⟩)
  refine wSs_nil ?_
  obtain ⟨q9, rfl, e9, S9, l9, b9⟩ := hP
  exact ⟨n + q9.1, q9.2, _, rfl, by rw [eg, goL_on e9], S9, by omega, bi.trans b9⟩
  obtain ⟨n, Ti, x5, rfl, eg, Si, hli, bi⟩ := hI
  rw [List.drop_length] at eg hli
  refine wSs_cons (wS_ret (wE_name 4 rfl ?_))
  exact fin n Ti _ eg Si (by simp only [shls] at hli; omega) bi

end
end D

namespace D
open PySem PySem.Spec PyProof.Rows L2
local macro_rules | `(tactic| walk_at "mul") => `(tactic| first | refine wO_mul (mulR (by first | decide | omega) (by first | decide | omega)) ?_ | refine wO_mul (mulL (by first | decide | omega) (by first | decide | omega)) ?_)
local macro_rules | `(tactic| walk_at "mod") => `(tactic| refine wO_mod (by first | decide | omega) ?_)
local macro_rules | `(tactic| walk_at "fdiv") => `(tactic| refine wO_fdiv (by first | decide | omega) (divS (by first | decide | omega)) ?_)
local macro_rules | `(tactic| walk_at "ix") => `(tactic| first | refine wI_tup (by rfl) ?_ | refine wI_lst (by rfl) ?_)
local macro_rules | `(tactic| walk_at "sl") => `(tactic| first | refine wSl_tup ?_ | refine wSl_lstF ?_)
local macro_rules | `(tactic| walk_at "obj") => `(tactic| refine ⟨_, _, _, rfl, by assumption, rfl, ?_⟩)
local macro_rules | `(tactic| walk_at "len") => `(tactic| first | refine wC_len (.tup _) ?_ | refine wC_len (.lst _) ?_ | refine wC_len (.loc (by assumption)) ?_)
section
variable {P : Program} {w : World} {mg : Str → Option Value} {base : Heap} {K : PySem.W.Frag} {CL CP CTL CTe CPr CPo CNV CTG CCo CS pT : Addr} {k : Nat}
abbrev s__law_is_part : Stmt := topS 55
abbrev N__law_is_part : List Str := ["_law_part", "_law_counts", "_law_told", "_law_many_here"]
theorem sc__law_is_part : FnScope N__law_is_part ["_law_part", "_law_counts"] (defScope s__law_is_part) := ⟨rfl, rfl, rfl, by decide +kernel, rfl, by decide +kernel, by decide +kernel⟩
theorem unl_lt (ws : List Str) : decide ((((unl ws).length : Nat) : Int) < (ws.length : Nat)) = !decide ws.Nodup := by
  rw [← unl_iff]
  have := unl_le _ ws rfl
  by_cases h : (((unl ws).length : Nat) : Int) = (ws.length : Nat)
  · rw [decide_eq_true h, decide_eq_false (by omega)]; rfl
  · rw [decide_eq_false h, decide_eq_true (by omega)]; rfl
theorem part_noL {x : D.A} {Cn : List (Str × Int)} (h : ¬ (headA Cn x = true ∧ rowsA 4 ((tupOf x).getD 1 .non) = true)) : partL x Cn = (1000, Cn) := by unfold partL; exact if_neg h
def c__law_is_part : AC := fun xs μ Q _ => ∃ (zs : List Addr) (x : D.A) (cp : Addr) (Cn : List (Str × Int)), xs = [x, .loc cp] ∧ gdA zs x ∧ μ cp = some (.dic (Pk Cn)) ∧ cp ∉ zs ∧ Zs μ zs ∧ shl x ≤ 9 * 10 ^ 6 ∧ Cn.length ≤ 100 ∧ ∀ μ', μ' cp = some (.dic (Pk (partL x Cn).2)) → But1 cp μ μ' → Q (.int ((partL x Cn).1 : Nat)) μ'
theorem ok__law_is_part {n : Nat}  {f : Addr} {fd : FuncData} (TX : Txt K mg w CL CP CTL CTe CPr CPo CNV CTG CCo CS pT) (C__law_is_name : Cal P w K mg base n "_law_is_name" c__law_is_name) (C__law_is_row : Cal P w K mg base n "_law_is_row" c__law_is_row) (C__law_body_told : Cal P w K mg base n "_law_body_told" (c__law_body_told 0)) (F : Fun K "_law_is_part" "_law_is_part" s__law_is_part f fd) : FnD P w K mg base CX0 (n + 1) f fd ["_law_part", "_law_counts"] c__law_is_part := by
  refine fnD F sc__law_is_part (fun xs μ Q E hc => by obtain ⟨zs, x, cp, Cn, rfl, gd, hcp, cz, hz, hsl, hcn, q⟩ := hc; rfl) (fun cdv Ao outer s H E xs μ Q E0 ar hc => ?_)
  obtain ⟨zs, x, cp, Cn, rfl, gd, hcp, cz, hz, hsl, hcn, q⟩ := hc
  obtain ⟨nm, t1, t2, _⟩ := gd_ty gd hz
  have fin : ∀ (n : Nat) (C' : List (Str × Int)) μ', partL x Cn = (n, C') → μ' cp = some (.dic (Pk C')) → But1 cp μ μ' → Q (.int (n : Nat)) μ' := fun n C' μ' e h1 h2 => by rw [e] at q; exact q μ' h1 h2
  have nd := sc__law_is_part.nd
  refine wSs_cons (wS_if ?_)
  refine wT.imp (QB := fun k μ' => μ = μ' ∧ k = !headA Cn x) ?_ (fun k μ' hq => ?_)
  refine wT_chain (wW_or (wT_not (wT_val (wE_callB (id := "isinstance") TX.b_isinstance (by decide +kernel) (wA_cons (wE_name 0 rfl (wA_cons (wE_type (n := "tuple") TX.b_tuple (by decide +kernel) (wA_nil ?_)))))))))
  refine wC_isi t1 t2 ?_
  refine ⟨_, rfl, ?_⟩
  refine ⟨fun hk => ?_, fun hk => ?_⟩
  · refine ⟨rfl, ?_⟩
    unfold headA
    rw [show isTupA x = false by simpa using hk]; rfl
  obtain ⟨ys, rfl⟩ : ∃ ys, x = .tup ys := ⟨_, tup_eq (by simpa using hk)⟩
  refine wW_or (wT_cmp (wE_callB (id := "len") TX.b_len (by decide +kernel) (wA_cons (wE_name 0 rfl (wA_nil ?_)))))
  walk_at "len"
  refine wE_int ?_
  refine wO_neI ?_
  refine ⟨_, rfl, ?_⟩
  refine ⟨fun hk => ?_, fun hk => ?_⟩
  · refine ⟨rfl, ?_⟩
    have no : ¬ ys.length = 4 := fun e => by rw [decide_eq_true (show (ys.length : Int) = 4 by omega)] at hk; cases hk
    unfold headA
    show true = !(true && decide (ys.length = 4) && _ && _)
    rw [decide_eq_false no]; rfl
  have l4 : ys.length = 4 := by
    have h4 : (ys.length : Int) = 4 := by simpa using hk
    omega
  refine wW_or (wT_not (wT_val (wE_cal C__law_is_name ar (by omega) (wA_cons (wE_ix (wE_name 0 rfl (wE_int ?_)))))))
  refine wI_tup (tup_at (i := 0) (by omega)) ?_
  refine wA_nil ?_
  refine ⟨zs, ys.getD 0 .non, rfl, gd_get gd 0, hz, ?_⟩
  refine ⟨_, rfl, ?_⟩
  refine ⟨fun hk => ?_, fun hk => ?_⟩
  · refine ⟨rfl, ?_⟩
    have no : isNm (ys.getD 0 .non) = false := by simpa using hk
    unfold headA
    show true = !(true && decide (ys.length = 4) && isNm (ys.getD 0 .non) && _)
    rw [no, Bool.and_false]; rfl
  have yes : isNm (ys.getD 0 .non) = true := by simpa using hk
  obtain ⟨nw, enw, hnw⟩ := nm_str yes
  refine wW_or1 (wT_inD ar (wE_ix (wE_name 0 rfl (wE_int ?_))))
  refine wI_tup (xs := ys) (y := .str nw) (by rw [← enw]; exact tup_at (i := 0) (by omega)) ?_
  refine wE_name 1 rfl ?_
  refine ⟨cp, _, .inr nw, rfl, hcp, rfl, ?_⟩
  refine ⟨rfl, ?_⟩
  rw [valA_Pk]
  unfold headA
  show _ = !(true && decide (ys.length = 4) && isNm (ys.getD 0 .non) && (valI Cn (wdO (ys.getD 0 .non))).isNone)
  rw [yes, decide_eq_true l4, enw]
  show _ = !(valI Cn nw).isNone
  cases valI Cn nw <;> rfl
  obtain ⟨rfl, rfl⟩ := hq
  refine ⟨fun hk => ?_, fun hk => ?_⟩
  refine wSs_cons (wS_ret (wE_int ?_))
  have no : headA Cn x = false := by simpa using hk
  exact fin 1000 Cn μ (part_noL fun z => by rw [no] at z; cases z.1) hcp (But1.of (.refl _))
  refine wSs_nil ?_
  refine wSs_cons (wS_if ?_)
  have hd : headA Cn x = true := by simpa using hk
  obtain ⟨ys, rfl, l4, y0⟩ : ∃ ys, x = .tup ys ∧ ys.length = 4 ∧ isNm (ys.getD 0 .non) = true := by
    have h := hd
    unfold headA at h
    simp only [Bool.and_eq_true, decide_eq_true_eq] at h
    exact ⟨tupOf x, tup_eq h.1.1.1, h.1.1.2, h.1.2⟩
  obtain ⟨nw, enw, hnw⟩ := nm_str y0
  have hnew : valI Cn nw = none := by
    have h := hd
    unfold headA at h
    simp only [Bool.and_eq_true, decide_eq_true_eq] at h
    have h2 := h.2
    rw [show (tupOf (.tup ys)).getD 0 .non = .str nw from enw] at h2
    simpa [wdO] using h2
  obtain ⟨hl, hg⟩ := gd_tup gd
  obtain ⟨ws, ews⟩ : ∃ ws, ws = wordsA (ys.getD 1 .non) := ⟨_, rfl⟩
  refine wT.imp (QB := fun k μ' => μ = μ' ∧ k = !rowsA 4 (ys.getD 1 .non)) ?_ (fun k μ' hq => ?_)
  refine wT_chain (wW_or (wT_not (wT_val (wE_cal C__law_is_row ar (by omega) (wA_cons (wE_ix (wE_name 0 rfl (wE_int ?_))))))))
  refine wI_tup (tup_at (i := 1) (by omega)) ?_
  refine wA_cons (wE_int (wA_nil ?_))
  refine ⟨zs, ys.getD 1 .non, 4, rfl, gd_get gd 1, hz, ?_⟩
  refine ⟨_, rfl, ?_⟩
  refine ⟨fun hk => ?_, fun hk => ?_⟩
  · refine ⟨rfl, ?_⟩
    unfold rowsA
    rw [show namesA 4 (ys.getD 1 .non) = false by simpa using hk]; rfl
  have nam : namesA 4 (ys.getD 1 .non) = true := by simpa using hk
  obtain ⟨e1, i1, i4, hns⟩ := names_str nam
  rw [← ews] at e1 i1 i4 hns
  have at1 : atI ys 1 = some (.tup (ws.map D.A.str)) := by rw [← e1]; exact tup_at (i := 1) (by omega)
  refine wW_or1 (wT_cmp (wE_lenSet TX.b_len TX.b_set (wE_ix (wE_name 0 rfl (wE_int ?_)))))
  refine wI_tup (xs := ys) (y := .tup (ws.map D.A.str)) at1 ?_
  refine ⟨ws, rfl, by omega, ?_⟩
  refine wE_callB (id := "len") TX.b_len (by decide +kernel) (wA_cons (wE_ix (wE_name 0 rfl (wE_int ?_))))
  refine wI_tup (xs := ys) (y := .tup (ws.map D.A.str)) at1 ?_
  refine wA_nil ?_
  refine wC_len (.tup _) ?_
  rw [List.length_map]
  refine wO_lt ?_
  refine ⟨_, rfl, ?_⟩
  refine ⟨rfl, ?_⟩
  unfold rowsA
  rw [nam, ← ews, unl_lt, Bool.true_and]
  obtain ⟨rfl, rfl⟩ := hq
  refine ⟨fun hk => ?_, fun hk => ?_⟩
  refine wSs_cons (wS_ret (wE_int ?_))
  have no : rowsA 4 (ys.getD 1 .non) = false := by simpa using hk
  exact fin 1000 Cn μ (part_noL fun z => by rw [show rowsA 4 ((tupOf (.tup ys)).getD 1 .non) = false from no] at z; cases z.2) hcp (But1.of (.refl _))
  refine wSs_nil ?_
  refine wSs_cons (wS_set 2 (wE_callTy (T := "list") TX.b_list (by decide +kernel) (wA_cons (wE_ix (wE_name 0 rfl (wE_int ?_))))) nd)
  have row : rowsA 4 (ys.getD 1 .non) = true := by simpa using hk
  obtain ⟨e1, i1, i4, hns, nod⟩ := rows_str row
  rw [← ews] at e1 i1 i4 hns nod
  have at1 : atI ys 1 = some (.tup (ws.map D.A.str)) := by rw [← e1]; exact tup_at (i := 1) (by omega)
  refine wI_tup (xs := ys) (y := .tup (ws.map D.A.str)) at1 ?_
  refine wA_nil ?_
  refine wC_list (.tup _) (fun t nt => ?_)
  have ct : cp ≠ t := fun e => by rw [e, nt] at hcp; cases hcp
  have tz : t ∉ zs := fun e => by rw [hz t e] at nt; cases nt
  have s1 : Sub μ (μ.upd t (.lst (ws.map D.A.str))) := Sub.new nt
  have S1 : LwS t cp zs Cn ws (μ.upd t (.lst (ws.map D.A.str))) := ⟨Mu.upd_same, s1 _ _ hcp, ct, tz, hz.sub s1⟩
  refine wSs_cons (wS_set 3 (wE_cal C__law_body_told ar (by omega) (wA_cons (wE_ix (wE_name 0 rfl (wE_int ?_))))) nd)
  refine wI_tup (tup_at (i := 2) (by omega)) ?_
  have hb2 := shl_getT (ys := ys) (i := 2) (by omega)
  refine wA_cons (wE_name 2 rfl (wA_cons (wE_name 1 rfl (wA_cons (wE_int (wA_nil ?_))))))
  refine ⟨zs, ys.getD 2 .non, t, cp, ws, Cn, 0, rfl, gd_get gd 2, S1, Nat.le_refl _, by omega, by simp only [shl] at hsl; omega, fun μ2 S2 hl2 b2 => ?_⟩
  rw [show 3 - 0 = 3 from rfl] at S2 hl2
  obtain ⟨R, eR⟩ : ∃ R, R = bodyL Cn 3 (ys.getD 2 .non) ws := ⟨_, rfl⟩
  rw [show 3 - 0 = 3 from rfl, ← eR]
  rw [← eR] at S2 hl2
  refine wSs_cons (wS_dput ar (wE_callB (id := "len") TX.b_len (by decide +kernel) (wA_cons (wE_ix (wE_name 0 rfl (wE_int ?_))))))
  refine wI_tup (xs := ys) (y := .tup (ws.map D.A.str)) at1 ?_
  refine wA_nil ?_
  refine wC_len (.tup _) ?_
  rw [List.length_map]
  refine wE_name 1 rfl (wE_ix (wE_name 0 rfl (wE_int ?_)))
  refine wI_tup (xs := ys) (y := .str nw) (by rw [← enw]; exact tup_at (i := 0) (by omega)) ?_
  refine ⟨cp, _, .inr nw, rfl, S2.hc, rfl, szLt (by rw [show (Pk Cn).length = Cn.length from List.length_map ..]; omega), ?_⟩
  rw [putA_Pk hnew]
  have ht2 : (μ2.upd cp (.dic (Pk (Cn ++ [(nw, (ws.length : Int))])))) t = some (.lst (R.2.map D.A.str)) := by rw [Mu.upd_ne (Ne.symm ct)]; exact S2.ht
  have z3 : Zs (μ2.upd cp (.dic (Pk (Cn ++ [(nw, (ws.length : Int))])))) zs := fun z hz => by rw [Mu.upd_ne (fun e : z = cp => cz (by rw [← e]; exact hz))]; exact S2.z z hz
  have ends : ∀ n : Nat, partL (.tup ys) Cn = (n, Cn ++ [(nw, (ws.length : Int))]) → Q (.int (n : Nat)) (μ2.upd cp (.dic (Pk (Cn ++ [(nw, (ws.length : Int))])))) := fun n e => fin n _ _ e Mu.upd_same fun q o h1 h2 => by
    rw [Mu.upd_ne h1]
    exact b2 q o (fun z => by rw [z, nt] at h2; cases h2) (by rw [Mu.upd_ne (fun z => by rw [z, nt] at h2; cases h2)]; exact h2)
  have epl : partL (.tup ys) Cn = (if isStrA (ys.getD 3 .non) = true ∧ wdO (ys.getD 3 .non) ∈ R.2 then 2 + ws.length + R.1 else 1000, Cn ++ [(nw, (ws.length : Int))]) := by
    unfold partL
    refine (if_pos ⟨hd, row⟩).trans ?_
    rw [eR, ews]
    show (_, Cn ++ [(wdO (ys.getD 0 .non), _)]) = _
    rw [enw]; rfl
  obtain ⟨n3, t3, _, t4⟩ := gd_ty (gd_get gd 3) z3
  refine wSs_cons (wS_ret ?_)
  refine wE_if ?_
  refine wT.imp (QB := fun k μ3 => (μ2.upd cp (.dic (Pk (Cn ++ [(nw, (ws.length : Int))])))) = μ3 ∧ k = decide (isStrA (ys.getD 3 .non) = true ∧ wdO (ys.getD 3 .non) ∈ R.2)) ?_ (fun k μ3 hq => ?_)
  refine wT_chain (wW_and (wT_val (wE_callB (id := "isinstance") TX.b_isinstance (by decide +kernel) (wA_cons (wE_ix (wE_name 0 rfl (wE_int ?_)))))))
  refine wI_tup (tup_at (i := 3) (by omega)) ?_
  refine wA_cons (wE_type (n := "str") TX.b_str (by decide +kernel) (wA_nil ?_))
  refine wC_isi t3 t4 ?_
  refine ⟨_, rfl, ?_⟩
  refine and_flip (fun hk => ?_) (fun hk => ?_)
  · exact ⟨rfl, (decide_eq_false fun z => by rw [show isStrA (ys.getD 3 .non) = false from hk] at z; cases z.1).symm⟩
  have st : isStrA (ys.getD 3 .non) = true := hk
  refine wW_and1 (wT_cmp (wE_ix (wE_name 0 rfl (wE_int ?_))))
  refine wI_tup (xs := ys) (y := .str (wdO (ys.getD 3 .non))) (by rw [← str_eq st]; exact tup_at (i := 3) (by omega)) ?_
  refine wE_name 2 rfl ?_
  refine wO_in (.loc ht2) rfl (by rw [List.all_map]; exact List.all_eq_true.mpr fun _ _ => rfl) ?_
  refine ⟨_, rfl, ?_⟩
  refine ⟨rfl, ?_⟩
  rw [strs_in, decide_eq_decide]
  exact ⟨fun z => ⟨st, z⟩, fun z => z.2⟩
  refine ⟨fun hk => ?_, fun hk => ?_⟩
  refine wE_bin (wE_bin (wE_int (wE_callB (id := "len") TX.b_len (by decide +kernel) (wA_cons (wE_ix (wE_name 0 rfl (wE_int ?_)))))))
  obtain ⟨rfl, rfl⟩ := hq
  refine wI_tup (xs := ys) (y := .tup (ws.map D.A.str)) at1 ?_
  refine wA_nil ?_
  walk_at "len"
  refine wO_add ?_
  refine wE_name 3 rfl ?_
  refine wO_add ?_
  rw [List.length_map]
  have e := ends (2 + ws.length + R.1) (by rw [epl, if_pos (of_decide_eq_true hk)])
  rw [show ((2 + ws.length + R.1 : Nat) : Int) = 2 + (ws.length : Int) + (R.1 : Int) by omega] at e
  exact e
  obtain ⟨rfl, rfl⟩ := hq
  refine wE_int ?_
  exact ends 1000 (by rw [epl, if_neg (of_decide_eq_false hk)])

abbrev s__law_is_program : Stmt := topS 56
abbrev N__law_is_program : List Str := ["_law_thing_here", "_law_counts", "_law_many_here", "_law_part", "_law_told", "_law_name"]
theorem sc__law_is_program : FnScope N__law_is_program ["_law_thing_here"] (defScope s__law_is_program) := ⟨rfl, rfl, rfl, by decide +kernel, rfl, by decide +kernel, by decide +kernel⟩
theorem progL_is {ys ps : List D.A} {ws : List Str} (l4 : ys.length = 4) (e0 : ys.getD 0 .non = .tup ps) (ew : wordsA (ys.getD 1 .non) = ws) : progL (.tup ys) = (decide (ps.length ≤ 6) && decide ((partsL ps []).1 ≤ 80) && rowsA 6 (ys.getD 1 .non) && decide ((partsL ps []).1 + ws.length + (bodyL (partsL ps []).2 3 (ys.getD 2 .non) ws).1 ≤ 80) && namesA 4 (ys.getD 3 .non) && decide ((partsL ps []).1 + ws.length + (bodyL (partsL ps []).2 3 (ys.getD 2 .non) ws).1 + (wordsA (ys.getD 3 .non)).length ≤ 80) && (wordsA (ys.getD 3 .non)).all fun w => decide (w ∈ (bodyL (partsL ps []).2 3 (ys.getD 2 .non) ws).2)) := by
  subst ew
  unfold progL
  simp only [show tupOf (.tup ys) = ys from rfl, e0, show tupOf (.tup ps) = ps from rfl, show isTupA (.tup ys) = true from rfl, show isTupA (.tup ps) = true from rfl, l4, decide_true, Bool.true_and]
theorem partL_len (x : D.A) (Cn : List (Str × Int)) : (partL x Cn).2.length ≤ Cn.length + 1 := by
  unfold partL
  split
  · show (_ ++ [_]).length ≤ _
    rw [List.length_append, List.length_singleton]; exact Nat.le_refl _
  · exact Nat.le_succ _
def c__law_is_program : AC := fun xs μ Q _ => ∃ (zs : List Addr) (x : D.A), xs = [x] ∧ gdA zs x ∧ Zs μ zs ∧ shl x ≤ 9 * 10 ^ 6 ∧ ∀ μ', Sub μ μ' → Q (.bl (progL x)) μ'
theorem ok__law_is_program {n : Nat}  {f : Addr} {fd : FuncData} (TX : Txt K mg w CL CP CTL CTe CPr CPo CNV CTG CCo CS pT) (C__law_is_part : Cal P w K mg base n "_law_is_part" c__law_is_part) (C__law_is_row : Cal P w K mg base n "_law_is_row" c__law_is_row) (C__law_body_told : Cal P w K mg base n "_law_body_told" (c__law_body_told 0)) (F : Fun K "_law_is_program" "_law_is_program" s__law_is_program f fd) : FnD P w K mg base CX0 (n + 1) f fd ["_law_thing_here"] c__law_is_program := by
  refine fnD F sc__law_is_program (fun xs μ Q E hc => by obtain ⟨zs, x, rfl, gd, hz, hsl, q⟩ := hc; rfl) (fun cdv Ao outer s H E xs μ Q E0 ar hc => ?_)
  obtain ⟨zs, x, rfl, gd, hz, hsl, q⟩ := hc
  obtain ⟨nm, t1, t2, _⟩ := gd_ty gd hz
  have qno : ∀ μ', progL x = false → Sub μ μ' → Q (.bl false) μ' := fun μ' e s => by have h := q μ' s; rw [e] at h; exact h
  have nd := sc__law_is_program.nd
  refine wSs_cons (wS_if ?_)
  refine wT.imp (QB := fun k μ' => μ = μ' ∧ (k = true → progL x = false) ∧ (k = false → ∃ ys ps, x = .tup ys ∧ ys.length = 4 ∧ ys.getD 0 .non = .tup ps ∧ ps.length ≤ 6)) ?_ (fun k μ' hq => ?_)
  refine wT_chain (wW_or (wT_not (wT_val (wE_callB (id := "isinstance") TX.b_isinstance (by decide +kernel) (wA_cons (wE_name 0 rfl (wA_cons (wE_type (n := "tuple") TX.b_tuple (by decide +kernel) (wA_nil ?_)))))))))
  refine wC_isi t1 t2 ?_
  refine ⟨_, rfl, ?_⟩
  refine ⟨fun hk => ?_, fun hk => ?_⟩
  · refine ⟨rfl, fun _ => ?_, (fun e => nomatch e)⟩
    unfold progL
    rw [show isTupA x = false by simpa using hk]; rfl
  obtain ⟨ys, rfl⟩ : ∃ ys, x = .tup ys := ⟨_, tup_eq (by simpa using hk)⟩
  refine wW_or (wT_cmp (wE_callB (id := "len") TX.b_len (by decide +kernel) (wA_cons (wE_name 0 rfl (wA_nil ?_)))))
  walk_at "len"
  refine wE_int ?_
  refine wO_neI ?_
  refine ⟨_, rfl, ?_⟩
  refine ⟨fun hk => ?_, fun hk => ?_⟩
  · refine ⟨rfl, fun _ => ?_, (fun e => nomatch e)⟩
    have no : ¬ ys.length = 4 := fun e => by rw [decide_eq_true (show (ys.length : Int) = 4 by omega)] at hk; cases hk
    exact Bool.eq_false_iff.mpr fun z => by
      unfold progL at z
      simp only [Bool.and_eq_true, decide_eq_true_eq] at z
      exact no z.1.1.1.1.1.1.1.1.2
  have l4 : ys.length = 4 := by
    have h4 : (ys.length : Int) = 4 := by simpa using hk
    omega
  refine wW_or (wT_not (wT_val (wE_callB (id := "isinstance") TX.b_isinstance (by decide +kernel) (wA_cons (wE_ix (wE_name 0 rfl (wE_int ?_)))))))
  refine wI_tup (tup_at (i := 0) (by omega)) ?_
  obtain ⟨n3, t3, t4, _⟩ := gd_ty (gd_get gd 0) hz
  refine wA_cons (wE_type (n := "tuple") TX.b_tuple (by decide +kernel) (wA_nil ?_))
  refine wC_isi t3 t4 ?_
  refine ⟨_, rfl, ?_⟩
  refine ⟨fun hk => ?_, fun hk => ?_⟩
  · refine ⟨rfl, fun _ => ?_, (fun e => nomatch e)⟩
    exact Bool.eq_false_iff.mpr fun z => by
      unfold progL at z
      simp only [Bool.and_eq_true, decide_eq_true_eq] at z
      have h9 : (!isTupA (ys.getD 0 .non)) = true := hk
      rw [show isTupA (ys.getD 0 .non) = true from z.1.1.1.1.1.1.1.2] at h9
      cases h9
  have hk9 : (!isTupA (ys.getD 0 .non)) = false := hk
  obtain ⟨ps, e0⟩ : ∃ ps, ys.getD 0 .non = .tup ps := ⟨_, tup_eq (by simpa using hk9)⟩
  have at0 : atI ys 0 = some (.tup ps) := by rw [← e0]; exact tup_at (i := 0) (by omega)
  refine wW_or1 (wT_cmp (wE_callB (id := "len") TX.b_len (by decide +kernel) (wA_cons (wE_ix (wE_name 0 rfl (wE_int ?_))))))
  refine wI_tup at0 ?_
  refine wA_nil ?_
  refine wC_len (.tup _) ?_
  refine wE_int ?_
  refine wO_gt ?_
  refine ⟨_, rfl, ?_⟩
  refine ⟨rfl, fun z => Bool.eq_false_iff.mpr fun y => ?_, fun z => ⟨ys, ps, rfl, l4, e0, ?_⟩⟩
  · rw [progL_is l4 e0 rfl] at y
    simp only [Bool.and_eq_true, decide_eq_true_eq] at y
    have h1 := y.1.1.1.1.1.1
    have h2 := of_decide_eq_true z
    omega
  · have h2 := of_decide_eq_false z
    omega
  obtain ⟨rfl, g1, g2⟩ := hq
  refine ⟨fun hk => ?_, fun hk => ?_⟩
  refine wSs_cons (wS_ret (wE_bl ?_))
  exact qno μ (g1 hk) (.refl _)
  refine wSs_nil ?_
  refine wSs_cons (wS_set 1 (wE_dnew ?_) nd)
  obtain ⟨ys, ps, rfl, l4, e0, p6⟩ := g2 hk
  have gps : gdA zs (.tup ps) := by rw [← e0]; exact gd_get gd 0
  obtain ⟨hpl, hpg⟩ := gd_tup gps
  have at0 : atI ys 0 = some (.tup ps) := by rw [← e0]; exact tup_at (i := 0) (by omega)
  refine fun cp ncp => ?_
  have s0 : Sub μ (μ.upd cp (.dic [])) := Sub.new ncp
  have cz : cp ∉ zs := fun e => by rw [hz cp e] at ncp; cases ncp
  refine wSs_cons (wS_set 2 (wE_callB (id := "sum") TX.b_sum (by decide +kernel) (wA_cons (wE_lc [("_law_part", 3)] (wIt_tup (wE_ix (wE_name 0 rfl (wE_int ?_)))) nd (blkOk_by (N := N__law_is_program) (sc := defScope s__law_is_program) (by decide +kernel))))) nd)
  refine wI_tup at0 ?_
  refine ⟨_, rfl, ?_⟩
  refine ⟨szOk (by omega), fun i acc μ' => ∃ (bs : List Int) (C : List (Str × Int)), acc = bs.map D.A.int ∧ bs.sum + ((partsL (ps.drop i) C).1 : Nat) = ((partsL ps []).1 : Nat) ∧ (partsL (ps.drop i) C).2 = (partsL ps []).2 ∧ C.length ≤ i ∧ μ' cp = some (.dic (Pk C)) ∧ But1 cp (μ.upd cp (.dic [])) μ', ⟨[], [], rfl, by simp, rfl, Nat.le_refl _, Mu.upd_same, But1.of (.refl _)⟩, fun i y acc μ' hy hJ s1 H0 C cl fp => ?_, fun acc μ' hJ pl npl => ?_⟩
  obtain ⟨bs, C9, rfl, hb, hC, hlen, hcp, b1⟩ := hJ
  have hi6 := (List.getElem?_eq_some_iff.mp hy).1
  have ed : ps.drop i = y :: ps.drop (i + 1) := by
    rw [List.drop_eq_getElem_cons hi6]
    rw [List.getElem?_eq_getElem hi6] at hy
    rw [Option.some.inj hy]
  rw [ed] at hb hC
  have zi : Zs μ' zs := fun z hz2 => b1 z _ (fun e => cz (by rw [← e]; exact hz2)) (s0 _ _ (hz z hz2))
  refine wGw_name 3 (fun s0 H0 C cl fp => (wE_cal C__law_is_part ar.bk (by omega) (wA_cons (wE_name 3 rfl (wA_cons (wE_name 1 rfl (wA_nil ?_))))))) nd
  have hsy : shl y ≤ 9 * 10 ^ 6 := by
    have h1 := shls_in (List.mem_of_getElem? hy)
    have h2 := shl_getT (ys := ys) (i := 0) (by omega)
    rw [e0] at h2
    simp only [shl] at h2 hsl
    omega
  refine ⟨zs, y, cp, C9, rfl, hpg y (List.mem_of_getElem? hy), hcp, cz, zi, hsy, by omega, fun μ2 h2 b2 => ?_⟩
  refine ⟨bs ++ [(((partL y C9).1 : Nat) : Int)], (partL y C9).2, by rw [List.map_append]; rfl, ?_, hC, ?_, h2, b1.trans b2⟩
  · rw [List.sum_append, ← hb]
    simp only [partsL, List.sum_cons, List.sum_nil]
    omega
  · have := partL_len y C9
    omega
  obtain ⟨bs, C9, rfl, hb, hC, hlen, hcp, b1⟩ := hJ
  rw [List.drop_length] at hb hC
  have hC : C9 = (partsL ps []).2 := hC
  have hb : bs.sum = ((partsL ps []).1 : Nat) := by simpa [partsL] using hb
  have s1 : Sub μ (μ'.upd pl (.lst (bs.map D.A.int))) := fun p o hp => by
    have n1 : p ≠ cp := fun e => by rw [e, ncp] at hp; cases hp
    have h1 := b1 p o n1 (s0 _ _ hp)
    rw [Mu.upd_ne (fun e => by rw [e, npl] at h1; cases h1)]; exact h1
  have hcp1 : (μ'.upd pl (.lst (bs.map D.A.int))) cp = some (.dic (Pk C9)) := by rw [Mu.upd_ne (fun e => by rw [e, npl] at hcp; cases hcp)]; exact hcp
  refine wA_nil ?_
  refine wC_sum rfl (.loc Mu.upd_same) ?_
  rw [hb]
  obtain ⟨ws, ews⟩ : ∃ ws, wordsA (ys.getD 1 .non) = ws := ⟨_, rfl⟩
  have epr := progL_is l4 e0 ews
  generalize μ'.upd pl (.lst (bs.map D.A.int)) = μ1 at s1 hcp1 ⊢
  have hz1 := hz.sub s1
  refine wSs_cons (wS_if ?_)
  refine wT.imp (QB := fun k μ3 => μ1 = μ3 ∧ (k = true → progL (.tup ys) = false) ∧ (k = false → (partsL ps []).1 ≤ 80 ∧ rowsA 6 (ys.getD 1 .non) = true)) ?_ (fun k μ3 hq => ?_)
  refine wT_chain (wW_or (wT_cmp (wE_name 2 rfl (wE_int ?_))))
  refine wO_gt ?_
  refine ⟨_, rfl, ?_⟩
  refine ⟨fun hk => ?_, fun hk => ?_⟩
  · refine ⟨rfl, fun _ => Bool.eq_false_iff.mpr fun y => ?_, (fun e => nomatch e)⟩
    rw [epr] at y
    simp only [Bool.and_eq_true, decide_eq_true_eq] at y
    have h1 := y.1.1.1.1.1.2
    have h2 := of_decide_eq_true hk
    omega
  have p80 : (partsL ps []).1 ≤ 80 := by
    have := of_decide_eq_false hk
    omega
  refine wW_or (wT_not (wT_val (wE_cal C__law_is_row ar (by omega) (wA_cons (wE_ix (wE_name 0 rfl (wE_int ?_)))))))
  refine wI_tup (tup_at (i := 1) (by omega)) ?_
  refine wA_cons (wE_int (wA_nil ?_))
  refine ⟨zs, ys.getD 1 .non, 6, rfl, gd_get gd 1, hz1, ?_⟩
  refine ⟨_, rfl, ?_⟩
  refine ⟨fun hk => ?_, fun hk => ?_⟩
  · refine ⟨rfl, fun _ => Bool.eq_false_iff.mpr fun y => ?_, (fun e => nomatch e)⟩
    rw [epr] at y
    simp only [Bool.and_eq_true, decide_eq_true_eq] at y
    have h := y.1.1.1.1.2
    unfold rowsA at h
    rw [show namesA 6 (ys.getD 1 .non) = false by simpa using hk] at h
    cases h
  have nam : namesA 6 (ys.getD 1 .non) = true := by simpa using hk
  obtain ⟨e1, i1, i4, hns⟩ := names_str nam
  rw [ews] at e1 i1 i4 hns
  have at1 : atI ys 1 = some (.tup (ws.map D.A.str)) := by rw [← e1]; exact tup_at (i := 1) (by omega)
  refine wW_or1 (wT_cmp (wE_lenSet TX.b_len TX.b_set (wE_ix (wE_name 0 rfl (wE_int ?_)))))
  refine wI_tup (xs := ys) (y := .tup (ws.map D.A.str)) at1 ?_
  refine ⟨ws, rfl, by omega, ?_⟩
  refine wE_callB (id := "len") TX.b_len (by decide +kernel) (wA_cons (wE_ix (wE_name 0 rfl (wE_int ?_))))
  refine wI_tup (xs := ys) (y := .tup (ws.map D.A.str)) at1 ?_
  refine wA_nil ?_
  refine wC_len (.tup _) ?_
  rw [List.length_map]
  refine wO_lt ?_
  refine ⟨_, rfl, ?_⟩
  rw [unl_lt]
  have er : rowsA 6 (ys.getD 1 .non) = decide ws.Nodup := by unfold rowsA; rw [nam, ews, Bool.true_and]
  refine ⟨rfl, fun z => Bool.eq_false_iff.mpr fun y => ?_, fun z => ⟨p80, by rw [er]; simpa using z⟩⟩
  rw [epr] at y
  simp only [Bool.and_eq_true, decide_eq_true_eq] at y
  have h := y.1.1.1.1.2
  rw [er] at h
  rw [h] at z; cases z
  obtain ⟨rfl, g3, g4⟩ := hq
  refine ⟨fun hk => ?_, fun hk => ?_⟩
  refine wSs_cons (wS_ret (wE_bl ?_))
  exact qno μ1 (g3 hk) s1
  refine wSs_nil ?_
  refine wSs_cons (wS_set 4 (wE_callTy (T := "list") TX.b_list (by decide +kernel) (wA_cons (wE_ix (wE_name 0 rfl (wE_int ?_))))) nd)
  obtain ⟨p80, row⟩ := g4 hk
  obtain ⟨e1, i1, i4, hns, nod⟩ := rows_str row
  rw [ews] at e1 i1 i4 hns nod
  have at1 : atI ys 1 = some (.tup (ws.map D.A.str)) := by rw [← e1]; exact tup_at (i := 1) (by omega)
  refine wI_tup (xs := ys) (y := .tup (ws.map D.A.str)) at1 ?_
  refine wA_nil ?_
  refine wC_list (.tup _) (fun t nt => ?_)
  have ct : cp ≠ t := fun e => by rw [e, nt] at hcp1; cases hcp1
  have tz : t ∉ zs := fun e => by rw [hz1 t e] at nt; cases nt
  have s2 : Sub μ1 (μ1.upd t (.lst (ws.map D.A.str))) := Sub.new nt
  have S1 : LwS t cp zs C9 ws (μ1.upd t (.lst (ws.map D.A.str))) := ⟨Mu.upd_same, s2 _ _ hcp1, ct, tz, hz1.sub s2⟩
  have hmt : μ t = none := by
    cases e : μ t with
    | none => rfl
    | some o => rw [s1 t o e] at nt; cases nt
  refine wSs_cons (wS_set 2 (wE_bin (wE_bin (wE_name 2 rfl (wE_callB (id := "len") TX.b_len (by decide +kernel) (wA_cons (wE_ix (wE_name 0 rfl (wE_int ?_)))))))) nd)
  refine wI_tup (xs := ys) (y := .tup (ws.map D.A.str)) at1 ?_
  refine wA_nil ?_
  refine wC_len (.tup _) ?_
  rw [List.length_map]
  refine wO_add ?_
  refine wE_cal C__law_body_told ar (by omega) (wA_cons (wE_ix (wE_name 0 rfl (wE_int ?_))))
  refine wI_tup (tup_at (i := 2) (by omega)) ?_
  have hb2 := shl_getT (ys := ys) (i := 2) (by omega)
  refine wA_cons (wE_name 4 rfl (wA_cons (wE_name 1 rfl (wA_cons (wE_int (wA_nil ?_))))))
  refine ⟨zs, ys.getD 2 .non, t, cp, ws, C9, 0, rfl, gd_get gd 2, S1, Nat.le_refl _, by omega, by simp only [shl] at hsl; omega, fun μ2 S2 hl2 b2 => ?_⟩
  rw [show 3 - 0 = 3 from rfl] at S2 hl2
  obtain ⟨R, eR⟩ : ∃ R, R = bodyL C9 3 (ys.getD 2 .non) ws := ⟨_, rfl⟩
  rw [show 3 - 0 = 3 from rfl, ← eR]
  rw [← eR] at S2 hl2
  rw [← hC, ← eR] at epr
  have s3 : Sub μ μ2 := fun p o hp => b2 p o (fun e => by rw [e, hmt] at hp; cases hp) (s2 _ _ (s1 _ _ hp))
  obtain ⟨os, eos⟩ : ∃ os, wordsA (ys.getD 3 .non) = os := ⟨_, rfl⟩
  rw [eos] at epr
  refine wO_add ?_
  refine wSs_cons (wS_if ?_)
  refine wT.imp (QB := fun k μ3 => μ2 = μ3 ∧ (k = true → progL (.tup ys) = false) ∧ (k = false → (partsL ps []).1 + ws.length + R.1 ≤ 80 ∧ namesA 4 (ys.getD 3 .non) = true)) ?_ (fun k μ3 hq => ?_)
  refine wT_chain (wW_or (wT_cmp (wE_name 2 rfl (wE_int ?_))))
  refine wO_gt ?_
  refine ⟨_, rfl, ?_⟩
  refine ⟨fun hk => ?_, fun hk => ?_⟩
  · refine ⟨rfl, fun _ => Bool.eq_false_iff.mpr fun y => ?_, (fun e => nomatch e)⟩
    rw [epr] at y
    simp only [Bool.and_eq_true, decide_eq_true_eq] at y
    have h1 := y.1.1.1.2
    have h2 := of_decide_eq_true hk
    omega
  have r80 : (partsL ps []).1 + ws.length + R.1 ≤ 80 := by
    have := of_decide_eq_false hk
    omega
  refine wW_or1 (wT_not (wT_val (wE_cal C__law_is_row ar (by omega) (wA_cons (wE_ix (wE_name 0 rfl (wE_int ?_)))))))
  refine wI_tup (tup_at (i := 3) (by omega)) ?_
  refine wA_cons (wE_int (wA_nil ?_))
  refine ⟨zs, ys.getD 3 .non, 4, rfl, gd_get gd 3, S2.z, ?_⟩
  refine ⟨_, rfl, ?_⟩
  refine ⟨rfl, fun z => Bool.eq_false_iff.mpr fun y => ?_, fun z => ⟨r80, by simpa using z⟩⟩
  rw [epr] at y
  simp only [Bool.and_eq_true, decide_eq_true_eq] at y
  rw [y.1.1.2] at z; cases z
  obtain ⟨rfl, g5, g6⟩ := hq
  refine ⟨fun hk => ?_, fun hk => ?_⟩
  refine wSs_cons (wS_ret (wE_bl ?_))
  exact qno μ2 (g5 hk) s3
  refine wSs_nil ?_
  refine wSs_cons (wS_ret ?_)
  refine wE_and (wE_cmp (wE_bin (wE_name 2 rfl (wE_callB (id := "len") TX.b_len (by decide +kernel) (wA_cons (wE_ix (wE_name 0 rfl (wE_int ?_))))))))
  obtain ⟨r80, nam⟩ := g6 hk
  obtain ⟨e3, o1, o4, hos⟩ := names_str nam
  rw [eos] at e3 o1 o4 hos
  have at3 : atI ys 3 = some (.tup (os.map D.A.str)) := by rw [← e3]; exact tup_at (i := 3) (by omega)
  rw [decide_eq_true p6, decide_eq_true p80, row, decide_eq_true r80, nam] at epr
  refine wI_tup (xs := ys) (y := .tup (os.map D.A.str)) at3 ?_
  refine wA_nil ?_
  refine wC_len (.tup _) ?_
  rw [List.length_map]
  refine wO_add ?_
  refine wE_int ?_
  refine wO_le ?_
  refine ⟨_, rfl, and_flip (fun hk => ?_) (fun hk => ?_)⟩
  · refine qno μ2 ?_ s3
    rw [epr, decide_eq_false (by have := of_decide_eq_false hk; omega)]; simp
  have t80 : (partsL ps []).1 + ws.length + R.1 + os.length ≤ 80 := by
    have := of_decide_eq_true hk
    omega
  rw [decide_eq_true t80] at epr
  simp only [Bool.true_and] at epr
  refine wE_one (wE_cmp (wE_lcPF (own := [("_law_name", 5)]) (wIt_tup (wE_ix (wE_name 0 rfl (wE_int ?_)))) nd (blkOk_by (N := N__law_is_program) (sc := defScope s__law_is_program) (by decide +kernel))))
  refine wI_tup (xs := ys) (y := .tup (os.map D.A.str)) at3 ?_
  refine ⟨_, rfl, ?_⟩
  refine ⟨szOk (by rw [List.length_map]; omega), os.map fun w => !decide (w ∈ R.2), os.map D.A.str, by simp, by simp, fun j y k z hy hk2 hz2 s0 H0 C cl fp => ?_, ?_⟩
  obtain ⟨w1, g7, rfl⟩ := map_at hy
  obtain ⟨w2, g8, rfl⟩ := map_at hk2
  obtain rfl : w1 = w2 := Option.some.inj (g7.symm.trans g8)
  obtain ⟨w3, g9, rfl⟩ := map_at hz2
  obtain rfl : w1 = w3 := Option.some.inj (g7.symm.trans g9)
  refine wGw_name 5 (⟨rfl, ?_⟩) nd
  refine ⟨fun s0 H0 C cl fp => ?_, fun kt s0 H0 C cl fp => ?_⟩
  refine wT_cmp (wE_name 5 rfl (wE_name 4 rfl ?_))
  refine wO_notIn (.loc S2.ht) rfl (by rw [List.all_map]; exact List.all_eq_true.mpr fun _ _ => rfl) ?_
  rw [strs_in]
  refine ⟨_, rfl, ?_⟩
  exact ⟨rfl, .refl _⟩
  refine wE_name 5 rfl ?_
  refine ⟨?_, .refl _⟩
  rfl
  refine wE_lstF (wA_nil ⟨by show 0 ≤ sizeLine; decide, ?_⟩)
  refine wO_eqNoneL ar.u64 ?_
  rw [pick_empty _ _ (by simp), List.all_map]
  have h := q μ2 s3
  rw [epr] at h
  rw [show (os.all ((fun k => !k) ∘ fun w => !decide (w ∈ R.2))) = os.all fun w => decide (w ∈ R.2) by congr 1; funext y; simp]
  exact h

end
end D

namespace D
open PySem PySem.Spec PyProof.Rows L2
def ahRows (q i0 : Str) : List A := [.tup [.str "row", .str "zzq", .str "plus", .tup [.str q, .tup [.int 1, .int 1]]], .tup [.str "row", .str "zzp", .str "copy", .tup [.str i0]]]
def ah0 (g : Pg) (q i0 : Str) : A := .tup [.tup (g.parts.map Pt.a), .tup (g.ins.map A.str), .tup (ahRows q i0 ++ aIts g.body), .tup (g.outs.map A.str)]
def ahP (b : List A) (i0 : Str) : A := .tup [.str "zza", .tup [.str i0], .tup b, .str i0]
def ahX (ps : List A) (g : Pg) : A := .tup [.tup (ps ++ g.parts.map Pt.a), .tup (g.ins.map A.str), .tup (aIts g.body), .tup (g.outs.map A.str)]
def ah1 (g : Pg) (q i0 : Str) : A := ahX [ahP [.tup [.str "repeat", .int 2, .tup (ahRows q i0)]] i0] g
def ah2 (g : Pg) (c i0 : Str) : A := ahX [ahP [.tup [.str "row", .str "zzq", .str "call", .tup [.str c, .str i0]]] i0, .tup [.str "zzb", .tup [.str i0], .tup [], .str i0]] g
structure AhOk (x : A) : Prop where
  no : progA x = false
  gd : gdA [] x
  sh : ∀ y ∈ tupOf x, shA 8 y
  sz : shl x ≤ 2000000
theorem tag_row : tagA "row" (.str "row") = true := by decide +kernel
theorem tag_rep : tagA "repeat" (.str "repeat") = true := by decide +kernel
theorem plus_bad {Pn : List (Str × Int)} {rec : Option (A → St → Bool × St)} {s : St} {q : Str} (h : q ∉ s.1) : (itemW Pn rec (.tup [.str "row", .str "zzq", .str "plus", .tup [.str q, .tup [.int 1, .int 1]]]) s).1 = false := by
  unfold itemW
  rw [if_neg (by simp [tupOf])]
  split
  · rfl
  rw [if_neg (fun z => by have := z.2; simp [tupOf] at this), if_pos ⟨tag_row, rfl⟩]
  unfold rowA
  rw [if_neg]
  intro z
  have h2 := z.2
  have h3 : doingA Pn s.1 (.str "plus") (.tup [.str q, .tup [.int 1, .int 1]]) = true := h2
  unfold doingA doingW at h3
  rw [show wdO (.str "plus") = "plus" from rfl, if_neg (by decide +kernel), show tupOf (.tup [.str q, .tup [.int 1, .int 1]]) = [.str q, .tup [.int 1, .int 1]] from rfl] at h3
  split at h3
  · rw [if_neg (by decide +kernel)] at h3
    simp only [List.all_cons, thingA, decide_eq_false h, Bool.false_and, Bool.and_false] at h3
    cases h3
  · simp at h3
theorem call_bad {rec : Option (A → St → Bool × St)} {s : St} {c i0 : Str} : (itemW [] rec (.tup [.str "row", .str "zzq", .str "call", .tup [.str c, .str i0]]) s).1 = false := by
  unfold itemW
  rw [if_neg (by simp [tupOf])]
  split
  · rfl
  rw [if_neg (fun z => by have := z.2; simp [tupOf] at this), if_pos ⟨tag_row, rfl⟩]
  unfold rowA
  rw [if_neg]
  intro z
  have h3 : doingA [] s.1 (.str "call") (.tup [.str c, .str i0]) = true := z.2
  unfold doingA doingW at h3
  rw [show wdO (.str "call") = "call" from rfl, if_pos rfl] at h3
  have h4 : callA [] s.1 [.str c, .str i0] = false := by
    show (decide (valI [] c = some (([A.str i0].length : Nat) : Int)) && [A.str i0].all (thingA s.1)) = false
    rw [show valI [] c = none from rfl]; rfl
  rw [show tupOf (.tup [.str c, .str i0]) = [.str c, .str i0] from rfl, h4, Bool.and_false] at h3
  cases h3
theorem body_bad {f : A → St → Bool × St} {x : A} {xs : List A} {s : St} (h : (f x s).1 = false) : (bodyW f (.tup (x :: xs)) s).1 = false := by
  unfold bodyW
  rw [if_pos (show isTupA (.tup (x :: xs)) = true from rfl)]
  show (allWith f (x :: xs) s).1 = false
  simp only [allWith, h, Bool.false_and]
theorem rep_bad {Pn : List (Str × Int)} {g : A → St → Bool × St} {s : St} {b : A} (h : ∀ s2, s2.1 = s.1 → (g b s2).1 = false) : (itemW Pn (some g) (.tup [.str "repeat", .int 2, b]) s).1 = false := by
  unfold itemW
  rw [if_neg (by simp [tupOf])]
  split
  · rfl
  rw [if_pos ⟨tag_rep, rfl⟩]
  split
  · exact h _ rfl
  · rfl
theorem part_bad {x : A} {s : Sp} (h : ∀ n, (bodyA s.1 3 ((tupOf x).getD 2 .non) (wordsA ((tupOf x).getD 1 .non), n)).1 = false) : (partA x s).1 = false := by
  unfold partA
  split
  · split
    · rfl
    · rw [if_neg fun z => by rw [h] at z; cases z.1]
  · rfl
theorem prog_bad {ps : List A} {x i b o : A} (h : (partA x ([], 0)).1 = false) : progA (.tup [.tup (x :: ps), i, b, o]) = false := prog_not fun c => by
  have h2 := c.ps
  have h3 : (partsA (x :: ps) ([], 0)).1 = true := h2
  simp only [partsA, h, Bool.false_and] at h3
  cases h3
theorem ahP_bad {b : List A} {i0 : Str} (h : ∀ n, (bodyA [] 3 (.tup b) ([i0], n)).1 = false) : (partA (ahP b i0) ([], 0)).1 = false := part_bad fun n => h n
theorem shl_tup (xs : List A) : shl (.tup xs) = shls xs + 3 := by simp only [shl]
theorem shls_cons (x : A) (xs : List A) : shls (x :: xs) = shl x + 2 + shls xs := by simp only [shls]
theorem shl_nm {w : Str} (h : isNm (.str w) = true) : shl (.str w) ≤ 82 := shl_let (isNm_let h).1 (isNm_let h).2.1
theorem shl_zz : ∀ w ∈ (["zza", "zzb", "zzp", "zzq", "row", "plus", "copy", "call", "repeat"] : List Str), shl (.str w) ≤ 10 := by decide +kernel
theorem shl_11 : shl (.tup [.int 1, .int 1]) ≤ 60 := by decide +kernel
theorem shl_2 : shl (.int 2) ≤ 60 := by decide +kernel
theorem gd_11 : gdA [] (.tup [.int 1, .int 1]) := by
  refine gd_of (Nat.le_of_ble_eq_true rfl) fun y hy => ?_
  simp only [List.mem_cons, List.not_mem_nil, or_false] at hy
  rcases hy with rfl | rfl <;> (simp only [gdA]; decide)
def Lit (n : Nat) (x : A) : Prop := gdA [] x ∧ ((tupOf x).length ≤ 6 ∧ shA 6 x) ∧ shl x ≤ n
theorem lit_tup {n k : Nat} {xs : List A} (hl : xs.length ≤ 6) (h : ∀ x ∈ xs, Lit n x) (hk : xs.length * (n + 2) + 3 ≤ k) : Lit k (.tup xs) := by
  refine ⟨gd_of (by omega) fun x hx => (h x hx).1, ⟨hl, by simp only [shA]; exact shs_of fun x hx => (h x hx).2.1⟩, ?_⟩
  rw [shl_tup]
  have : ∀ l : List A, (∀ x ∈ l, Lit n x) → shls l ≤ l.length * (n + 2) := fun l => by
    induction l with
    | nil => exact fun _ => Nat.zero_le _
    | cons x l ih =>
      intro h
      have a := ih fun y hy => h y (.tail _ hy)
      have b := (h x (.head _)).2.2
      rw [shls_cons, List.length_cons, Nat.succ_mul]; omega
  have h2 := this xs h
  omega
theorem lit_kw {w : Str} (h : w ∈ (["zza", "zzb", "zzp", "zzq", "row", "plus", "copy", "call", "repeat"] : List Str)) : Lit 100 (.str w) := by
  have a := shl_zz w h
  have b : ∀ w ∈ (["zza", "zzb", "zzp", "zzq", "row", "plus", "copy", "call", "repeat"] : List Str), w.length ≤ 1000 ∧ PyData.strOk w = true := by decide +kernel
  exact ⟨by simp only [gdA]; exact b w h, ⟨Nat.zero_le _, trivial⟩, by omega⟩
theorem lit_nm {w : Str} (h : isNm (.str w) = true) : Lit 100 (.str w) := ⟨nm_gd h, ⟨Nat.zero_le _, trivial⟩, by have := shl_nm h; omega⟩
theorem lit_11 : Lit 100 (.tup [.int 1, .int 1]) := ⟨gd_11, ⟨Nat.le_of_ble_eq_true rfl, by simp only [shA, shs, tupOf]; exact ⟨⟨Nat.zero_le _, trivial⟩, ⟨Nat.zero_le _, trivial⟩, trivial⟩⟩, by have := shl_11; omega⟩
theorem lit_2 : Lit 100 (.int 2) := ⟨by simp only [gdA]; decide, ⟨Nat.zero_le _, trivial⟩, by have := shl_2; omega⟩
theorem Lit.up {n k : Nat} {x : A} (h : Lit n x) (hk : n ≤ k) : Lit k x := ⟨h.1, h.2.1, Nat.le_trans h.2.2 hk⟩
theorem lit_rows {q i0 : Str} (hq : q = "zzq" ∨ q = "zzp") (h : isNm (.str i0) = true) : ∀ x ∈ ahRows q i0, Lit 5000 x := by
  have kq : Lit 100 (.str q) := lit_kw (by rcases hq with rfl | rfl <;> simp)
  intro x hx
  simp only [ahRows, List.mem_cons, List.not_mem_nil, or_false] at hx
  rcases hx with rfl | rfl
  · refine lit_tup (n := 615) (Nat.le_of_ble_eq_true rfl) (fun y hy => ?_) (by simp only [List.length_cons, List.length_nil]; omega)
    simp only [List.mem_cons, List.not_mem_nil, or_false] at hy
    rcases hy with rfl | rfl | rfl | rfl
    · exact (lit_kw (by simp)).up (by decide)
    · exact (lit_kw (by simp)).up (by decide)
    · exact (lit_kw (by simp)).up (by decide)
    · refine lit_tup (n := 100) (Nat.le_of_ble_eq_true rfl) (fun y hy => ?_) (by simp only [List.length_cons, List.length_nil]; omega)
      simp only [List.mem_cons, List.not_mem_nil, or_false] at hy
      rcases hy with rfl | rfl
      · exact kq
      · exact lit_11
  · refine lit_tup (n := 615) (Nat.le_of_ble_eq_true rfl) (fun y hy => ?_) (by simp only [List.length_cons, List.length_nil]; omega)
    simp only [List.mem_cons, List.not_mem_nil, or_false] at hy
    rcases hy with rfl | rfl | rfl | rfl
    · exact (lit_kw (by simp)).up (by decide)
    · exact (lit_kw (by simp)).up (by decide)
    · exact (lit_kw (by simp)).up (by decide)
    · refine lit_tup (n := 100) (Nat.le_of_ble_eq_true rfl) (fun y hy => ?_) (by simp only [List.length_cons, List.length_nil]; omega)
      rw [List.mem_singleton.mp hy]; exact lit_nm h
theorem lit_P {b : List A} {i0 : Str} (hb : Lit 35000 (.tup b)) (h : isNm (.str i0) = true) : Lit 300000 (ahP b i0) := by
  refine lit_tup (n := 35000) (Nat.le_of_ble_eq_true rfl) (fun y hy => ?_) (by simp only [List.length_cons, List.length_nil]; omega)
  simp only [List.mem_cons, List.not_mem_nil, or_false] at hy
  rcases hy with rfl | rfl | rfl | rfl
  · exact (lit_kw (by simp)).up (by decide)
  · refine lit_tup (n := 100) (Nat.le_of_ble_eq_true rfl) (fun y hy => ?_) (by simp only [List.length_cons, List.length_nil]; omega)
    rw [List.mem_singleton.mp hy]; exact lit_nm h
  · exact hb
  · exact (lit_nm h).up (by decide)
theorem PgB.four {g : Pg} (h : PgB g) : shls (g.parts.map Pt.a) + shls (g.ins.map A.str) + shls (aIts g.body) + shls (g.outs.map A.str) ≤ 1100000 := by
  have := h.sz
  unfold Pg.a at this
  simp only [shl_tup, shls_cons] at this
  omega
theorem shA_up {x : A} (h : shA 6 x) : shA 8 x := sh_up (by decide) h
theorem ahX_ok {g : Pg} (B : PgB g) {ps : List A} {x : A} (hl : ps.length ≤ 1) (h : ∀ y ∈ x :: ps, Lit 300000 y) (no : (partA x ([], 0)).1 = false) : AhOk (ahX (x :: ps) g) := by
  have f4 := B.four
  obtain ⟨r1, r2⟩ := B.root
  unfold Pg.a at r1 r2
  have q1 := gd_tup r1
  have q2 := fun y hy => q1.2 y hy
  have gp : gdA [] (.tup (g.parts.map Pt.a)) := q2 _ (.head _)
  have sp : shA 6 (.tup (g.parts.map Pt.a)) := r2 _ (.head _)
  refine ⟨prog_bad no, ?_, ?_, ?_⟩
  · unfold ahX
    refine gd_of (Nat.le_of_ble_eq_true rfl) fun y hy => ?_
    simp only [List.mem_cons, List.not_mem_nil, or_false] at hy
    rcases hy with rfl | rfl | rfl | rfl
    · refine gd_of (by rw [List.length_append, List.length_cons, List.length_map]; have := B.pl; omega) fun y hy => ?_
      rcases List.mem_append.mp hy with hy | hy
      · exact (h y hy).1
      · exact (gd_tup gp).2 y hy
    · exact q2 _ (by simp)
    · exact q2 _ (by simp)
    · exact q2 _ (by simp)
  · intro y hy
    have hy2 : y ∈ [A.tup (x :: ps ++ g.parts.map Pt.a), .tup (g.ins.map A.str), .tup (aIts g.body), .tup (g.outs.map A.str)] := hy
    simp only [List.mem_cons, List.not_mem_nil, or_false] at hy2
    rcases hy2 with rfl | rfl | rfl | rfl
    · refine shA_up ?_
      simp only [shA] at sp ⊢
      refine shs_of fun y hy => ?_
      rcases List.mem_append.mp hy with hy | hy
      · exact (h y hy).2.1
      · exact shs_mem sp y hy
    · exact shA_up (r2 _ (by simp [tupOf]))
    · exact shA_up (r2 _ (by simp [tupOf]))
    · exact shA_up (r2 _ (by simp [tupOf]))
  · have hx := (h x (.head _)).2.2
    have hps : shls ps ≤ 300002 := by
      cases ps with
      | nil => exact Nat.zero_le _
      | cons y r =>
        have h0 : r.length = 0 := by rw [List.length_cons] at hl; omega
        have := List.length_eq_zero_iff.mp h0
        subst this
        have := (h y (.tail _ (.head _))).2.2
        simp only [shls_cons, shls]; omega
    unfold ahX
    rw [List.cons_append]
    simp only [shl_tup, shls_cons, shls_app, show shls ([] : List A) = 0 from rfl]
    omega
theorem ah0_ok {g : Pg} (B : PgB g) {q i0 : Str} (hq : q = "zzq" ∨ q = "zzp") (hi : i0 ∈ g.ins) (hz : ∀ w ∈ g.ins, w ∉ ZZL) : AhOk (ah0 g q i0) := by
  have f4 := B.four
  have hn : isNm (.str i0) = true := B.ins i0 hi
  have hr := lit_rows hq hn
  have nq : q ∉ g.ins := fun e => hz q e (by rcases hq with rfl | rfl <;> simp [ZZL])
  obtain ⟨r1, r2⟩ := B.root
  unfold Pg.a at r1 r2
  have q2 := (gd_tup r1).2
  have gb : gdA [] (.tup (aIts g.body)) := q2 _ (by simp)
  have sb : shA 6 (.tup (aIts g.body)) := r2 _ (by simp [tupOf])
  refine ⟨prog_not fun c => ?_, ?_, ?_, ?_⟩
  · have h2 := c.bo
    have h3 : (bodyW (itemA (pOf (ah0 g q i0)).1 3) (.tup (ahRows q i0 ++ aIts g.body)) (wOf (ah0 g q i0), (pOf (ah0 g q i0)).2 + (wOf (ah0 g q i0)).length)).1 = true := h2
    have hw : wOf (ah0 g q i0) = g.ins := words_map g.ins
    rw [hw] at h3
    have hb : (bodyW (itemA (pOf (ah0 g q i0)).1 3) (.tup (ahRows q i0 ++ aIts g.body)) (g.ins, (pOf (ah0 g q i0)).2 + g.ins.length)).1 = false := by
      refine body_bad ?_
      show (itemW _ (some (bodyW (itemA _ 2))) _ _).1 = false
      exact plus_bad nq
    rw [hb] at h3
    cases h3
  · unfold ah0
    refine gd_of (Nat.le_of_ble_eq_true rfl) fun y hy => ?_
    simp only [List.mem_cons, List.not_mem_nil, or_false] at hy
    rcases hy with rfl | rfl | rfl | rfl
    · exact q2 _ (by simp)
    · exact q2 _ (by simp)
    · refine gd_of (by rw [List.length_append, aIts_len]; have := B.bl; show 2 + _ ≤ _; omega) fun y hy => ?_
      rcases List.mem_append.mp hy with hy | hy
      · exact (hr y hy).1
      · exact (gd_tup gb).2 y hy
    · exact q2 _ (by simp)
  · intro y hy
    have hy2 : y ∈ [A.tup (g.parts.map Pt.a), .tup (g.ins.map A.str), .tup (ahRows q i0 ++ aIts g.body), .tup (g.outs.map A.str)] := hy
    simp only [List.mem_cons, List.not_mem_nil, or_false] at hy2
    rcases hy2 with rfl | rfl | rfl | rfl
    · exact shA_up (r2 _ (by simp [tupOf]))
    · exact shA_up (r2 _ (by simp [tupOf]))
    · refine shA_up ?_
      simp only [shA] at sb ⊢
      refine shs_of fun y hy => ?_
      rcases List.mem_append.mp hy with hy | hy
      · exact (hr y hy).2.1
      · exact shs_mem sb y hy
    · exact shA_up (r2 _ (by simp [tupOf]))
  · have h1 := (hr _ (.head _)).2.2
    have h2 := (hr _ (.tail _ (.head _))).2.2
    unfold ah0
    simp only [ahRows] at h1 h2 ⊢
    rw [List.cons_append, List.cons_append, List.nil_append, shl_tup, shls_cons, shls_cons, shls_cons, shls_cons, shl_tup (_ :: _), shls_cons (.tup [.str "row", .str "zzq", _, _]), shls_cons (.tup [.str "row", .str "zzp", _, _]), shl_tup, shl_tup (g.ins.map _), shl_tup (g.outs.map _), show shls ([] : List A) = 0 from rfl]
    omega
theorem ah1_ok {g : Pg} (B : PgB g) {q i0 : Str} (hq : q = "zzq" ∨ q = "zzp") (hi : i0 ∈ g.ins) (hz : ∀ w ∈ g.ins, w ∉ ZZL) : AhOk (ah1 g q i0) := by
  have hn : isNm (.str i0) = true := B.ins i0 hi
  have hr := lit_rows hq hn
  have nq : q ≠ i0 := fun e => hz i0 hi (by rw [← e]; rcases hq with rfl | rfl <;> simp [ZZL])
  refine ahX_ok B (Nat.zero_le _) (fun y hy => ?_) (ahP_bad fun n => ?_)
  · rw [List.mem_singleton.mp hy]
    refine lit_P (lit_tup (n := 34900) (Nat.le_of_ble_eq_true rfl) (fun y hy => ?_) (by simp only [List.length_cons, List.length_nil]; omega)) hn
    rw [List.mem_singleton.mp hy]
    refine lit_tup (n := 10100) (Nat.le_of_ble_eq_true rfl) (fun y hy => ?_) (by simp only [List.length_cons, List.length_nil]; omega)
    simp only [List.mem_cons, List.not_mem_nil, or_false] at hy
    rcases hy with rfl | rfl | rfl
    · exact (lit_kw (by simp)).up (by decide)
    · exact lit_2.up (by decide)
    · exact lit_tup (n := 5000) (Nat.le_of_ble_eq_true rfl) hr (by simp only [ahRows, List.length_cons, List.length_nil]; omega)
  · refine body_bad ?_
    show (itemW [] (some (bodyW (itemA [] 2))) _ _).1 = false
    refine rep_bad fun s2 e => ?_
    refine body_bad ?_
    refine plus_bad ?_
    rw [e]
    simpa using nq
theorem ah2_ok {g : Pg} (B : PgB g) {c i0 : Str} (hc : c = "zza" ∨ c = "zzb") (hi : i0 ∈ g.ins) : AhOk (ah2 g c i0) := by
  have hn : isNm (.str i0) = true := B.ins i0 hi
  have kc : Lit 100 (.str c) := lit_kw (by rcases hc with rfl | rfl <;> simp)
  refine ahX_ok B (Nat.le_refl _) (fun y hy => ?_) (ahP_bad fun n => ?_)
  · rcases List.mem_cons.mp hy with rfl | hy
    · refine lit_P (lit_tup (n := 5000) (Nat.le_of_ble_eq_true rfl) (fun y hy => ?_) (by simp only [List.length_cons, List.length_nil]; omega)) hn
      rw [List.mem_singleton.mp hy]
      refine lit_tup (n := 615) (Nat.le_of_ble_eq_true rfl) (fun y hy => ?_) (by simp only [List.length_cons, List.length_nil]; omega)
      simp only [List.mem_cons, List.not_mem_nil, or_false] at hy
      rcases hy with rfl | rfl | rfl | rfl
      · exact (lit_kw (by simp)).up (by decide)
      · exact (lit_kw (by simp)).up (by decide)
      · exact (lit_kw (by simp)).up (by decide)
      · refine lit_tup (n := 100) (Nat.le_of_ble_eq_true rfl) (fun y hy => ?_) (by simp only [List.length_cons, List.length_nil]; omega)
        simp only [List.mem_cons, List.not_mem_nil, or_false] at hy
        rcases hy with rfl | rfl
        · exact kc
        · exact lit_nm hn
    · rw [List.mem_singleton.mp hy]
      refine (lit_tup (n := 615) (k := 5000) (Nat.le_of_ble_eq_true rfl) (fun y hy => ?_) (by simp only [List.length_cons, List.length_nil]; omega)).up (by decide)
      simp only [List.mem_cons, List.not_mem_nil, or_false] at hy
      rcases hy with rfl | rfl | rfl | rfl
      · exact (lit_kw (by simp)).up (by decide)
      · refine lit_tup (n := 100) (Nat.le_of_ble_eq_true rfl) (fun y hy => ?_) (by simp only [List.length_cons, List.length_nil]; omega)
        rw [List.mem_singleton.mp hy]; exact lit_nm hn
      · exact lit_tup (n := 100) (Nat.zero_le _) (fun y hy => nomatch hy) (by simp only [List.length_nil]; omega)
      · exact (lit_nm hn).up (by decide)
  · exact body_bad call_bad
end D

namespace D
open PySem PySem.Spec PyProof.Rows L2
local macro_rules | `(tactic| walk_at "mul") => `(tactic| first | refine wO_mul (mulR (by first | decide | omega) (by first | decide | omega)) ?_ | refine wO_mul (mulL (by first | decide | omega) (by first | decide | omega)) ?_)
local macro_rules | `(tactic| walk_at "mod") => `(tactic| refine wO_mod (by first | decide | omega) ?_)
local macro_rules | `(tactic| walk_at "fdiv") => `(tactic| refine wO_fdiv (by first | decide | omega) (divS (by first | decide | omega)) ?_)
local macro_rules | `(tactic| walk_at "ix") => `(tactic| first | refine wI_tup (by rfl) ?_ | refine wI_lst (by rfl) ?_)
local macro_rules | `(tactic| walk_at "sl") => `(tactic| first | refine wSl_tup ?_ | refine wSl_lstF ?_)
local macro_rules | `(tactic| walk_at "obj") => `(tactic| refine ⟨_, _, _, rfl, by assumption, rfl, ?_⟩)
local macro_rules | `(tactic| walk_at "len") => `(tactic| first | refine wC_len (.tup _) ?_ | refine wC_len (.lst _) ?_ | refine wC_len (.loc (by assumption)) ?_)
section
variable {P : Program} {w : World} {mg : Str → Option Value} {base : Heap} {K : PySem.W.Frag} {CL CP CTL CTe CPr CPo CNV CTG CCo CS pT : Addr} {k : Nat}
abbrev s__law_ahead : Stmt := topS 61
abbrev N__law_ahead : List Str := ["_law_m", "_law_plain", "_law_ins", "_law_rows", "_law_way", "_law_here", "_law_pair"]
theorem sc__law_ahead : FnScope N__law_ahead ["_law_m", "_law_plain"] (defScope s__law_ahead) := ⟨rfl, rfl, rfl, by decide +kernel, rfl, by decide +kernel, by decide +kernel⟩
def c__law_ahead : AC := fun xs μ Q _ => ∃ (m l : Addr) (c : Nat) (rm : Int) (mo : Option (List Str)) (g : Pg), xs = [.loc m, .tup [.tup (g.parts.map Pt.a), .tup (g.ins.map D.A.str), .tup (aIts g.body), .tup (g.outs.map D.A.str)]] ∧ Lx m l c rm mo μ ∧ c < 2 ^ 38 ∧ PgB g ∧ (∀ w ∈ g.ins, w ∉ ZZL) ∧
  ∀ (x : D.A) (c2 : Nat) μ', AhOk x → c2 ≤ c + 3 → Lx m l c2 rm mo μ' → Ls m l μ μ' → Q x μ'
theorem ok__law_ahead {n : Nat}  {f : Addr} {fd : FuncData} (TX : Txt K mg w CL CP CTL CTe CPr CPo CNV CTG CCo CS pT) (C__law_draw : Cal P w K mg base n "_law_draw" c__law_draw) (F : Fun K "_law_ahead" "_law_ahead" s__law_ahead f fd) : FnD P w K mg base CX0 (n + 1) f fd ["_law_m", "_law_plain"] c__law_ahead := by
  refine fnD F sc__law_ahead (fun xs μ Q E hc => by obtain ⟨m, l, c, rm, mo, g, rfl, lx, hc0, B, hzz, q⟩ := hc; rfl) (fun cdv Ao outer s H E xs μ Q E0 ar hc => ?_)
  obtain ⟨m, l, c, rm, mo, g, rfl, lx, hc0, B, hzz, q⟩ := hc
  obtain ⟨i0, hi, hat, hcut⟩ : ∃ i0, i0 ∈ g.ins ∧ atI (g.ins.map D.A.str) 0 = some (.str i0) ∧ cutA (g.ins.map D.A.str) none (some 1) = [.str i0] := by
    have h1 := B.i1
    cases e : g.ins with
    | nil => rw [e] at h1; simp at h1
    | cons i0 r => exact ⟨i0, .head _, atI_pos (i := 0) (by rfl) (by decide), by rw [cutA_take _ (by decide)]; rfl⟩
  have pl := B.pl
  have bl := B.bl
  have nd := sc__law_ahead.nd
  refine wSs_cons (wS_set 2 (wE_ix (wE_name 1 rfl (wE_int ?_))) nd)
  walk_at "ix"
  refine wSs_cons (wS_set 3 (wE_tup (wA_cons (wE_tup (wA_cons (wE_str (wA_cons (wE_str (wA_cons (wE_str (wA_cons (wE_tup (wA_cons (wE_ix (wE_lstF (wA_cons (wE_str (wA_cons (wE_str (wA_nil ⟨by show 2 ≤ sizeLine; decide, (wE_cal C__law_draw ar (by omega) (wA_cons (wE_name 0 rfl (wA_cons (wE_int (wA_nil ?_))))))⟩))))))))))))))))))) nd)
  refine ⟨m, l, 2, c, _, _, rfl, by decide, by decide, lx, by omega, fun r1 μ1 a0 a1 lx1 ls1 => ?_⟩
  refine wI_lstEx a0 (by simp only [List.length_cons, List.length_nil]; omega) (fun y hy => ?_)
  obtain ⟨q1, hq1, rfl⟩ : ∃ q1 : Str, (q1 = "zzq" ∨ q1 = "zzp") ∧ y = .str q1 := by
    simp only [List.mem_cons, List.not_mem_nil, or_false] at hy
    rcases hy with rfl | rfl
    · exact ⟨_, .inl rfl, rfl⟩
    · exact ⟨_, .inr rfl, rfl⟩
  refine wA_cons (wE_tup (wA_cons (wE_int (wA_cons (wE_int (wA_nil ⟨by show 2 ≤ sizeLine; decide, (wA_nil ⟨by show 2 ≤ sizeLine; decide, (wA_nil ⟨by show 4 ≤ sizeLine; decide, (wA_cons (wE_tup (wA_cons (wE_str (wA_cons (wE_str (wA_cons (wE_str (wA_cons (wE_tup (wA_cons (wE_ix (wE_name 2 rfl (wE_int ?_))))))))))))))⟩)⟩)⟩))))))
  refine wI_tup hat ?_
  refine wA_nil ⟨by show 1 ≤ sizeLine; decide, (wA_nil ⟨by show 4 ≤ sizeLine; decide, (wA_nil ⟨by show 2 ≤ sizeLine; decide, (wSs_cons (wS_set 4 (wE_cal C__law_draw ar (by omega) (wA_cons (wE_name 0 rfl (wA_cons (wE_int (wA_nil ?_)))))) nd))⟩)⟩)⟩
  refine ⟨m, l, 3, c + 1, _, _, rfl, by decide, by decide, lx1, by omega, fun r2 μ2 b0 b1 lx2 ls2 => ?_⟩
  have ls02 := ls1.trans ls2
  refine wSs_cons (wS_if (wT_cmp (wE_name 4 rfl (wE_int ?_))))
  refine wO_eqI ?_
  refine ⟨_, rfl, ?_⟩
  refine ⟨fun hk => ?_, fun hk => ?_⟩
  refine wSs_cons (wS_ret (wE_bin (wE_bin (wE_slice (wE_name 1 rfl (wE_int ⟨_, rfl, ?_⟩))))))
  walk_at "sl"
  refine wE_tup (wA_cons (wE_bin (wE_name 3 rfl (wE_ix (wE_name 1 rfl (wE_int ?_))))))
  walk_at "ix"
  refine wO_catT (szOk (by rw [aIts_len]; simp only [List.length_cons, List.length_nil]; omega)) ?_
  refine wA_nil ⟨by show 1 ≤ sizeLine; decide, ?_⟩
  refine wO_catT (szOk (by have := cutA_len [D.A.tup (g.parts.map Pt.a), .tup (g.ins.map D.A.str), .tup (aIts g.body), .tup (g.outs.map D.A.str)] none (some 2); simp only [List.length_cons, List.length_nil] at this ⊢; omega)) ?_
  refine wE_slice (wE_name 1 rfl (wE_int ⟨_, rfl, ?_⟩))
  walk_at "sl"
  refine wO_catT (szOk (by rw [List.length_append]; have := cutA_len [D.A.tup (g.parts.map Pt.a), .tup (g.ins.map D.A.str), .tup (aIts g.body), .tup (g.outs.map D.A.str)] none (some 2); have := cutA_len [D.A.tup (g.parts.map Pt.a), .tup (g.ins.map D.A.str), .tup (aIts g.body), .tup (g.outs.map D.A.str)] (some 3) none; simp only [List.length_cons, List.length_nil] at *; omega)) ?_
  exact q (ah0 g q1 i0) (c + 1 + 1) μ2 (ah0_ok B hq1 hi hzz) (by omega) lx2 ls02
  refine wSs_nil ?_
  refine wSs_cons (wS_if (wT_cmp (wE_name 4 rfl (wE_int ?_))))
  refine wO_eqI ?_
  refine ⟨_, rfl, ?_⟩
  refine ⟨fun hk => ?_, fun hk => ?_⟩
  refine wSs_cons (wS_set 3 (wE_tup (wA_cons (wE_tup (wA_cons (wE_str (wA_cons (wE_int (wA_cons (wE_name 3 rfl (wA_nil ⟨by show 3 ≤ sizeLine; decide, (wA_nil ⟨by show 1 ≤ sizeLine; decide, ?_⟩)⟩)))))))))) nd)
  refine wSs_cons (wS_ret (wE_bin (wE_tup (wA_cons (wE_bin (wE_tup (wA_cons (wE_tup (wA_cons (wE_str (wA_cons (wE_slice (wE_name 2 rfl (wE_int ⟨_, rfl, ?_⟩))))))))))))))
  refine wSl_tup ?_
  rw [hcut]
  refine wA_cons (wE_name 3 rfl (wA_cons (wE_ix (wE_name 2 rfl (wE_int ?_)))))
  refine wI_tup hat ?_
  refine wA_nil ⟨by show 4 ≤ sizeLine; decide, (wA_nil ⟨by show 1 ≤ sizeLine; decide, (wE_ix (wE_name 1 rfl (wE_int ?_)))⟩)⟩
  walk_at "ix"
  refine wO_catT (szOk (by rw [List.length_map]; simp only [List.length_cons, List.length_nil]; omega)) ?_
  refine wA_nil ⟨by show 1 ≤ sizeLine; decide, (wE_slice (wE_name 1 rfl (wE_int ⟨_, rfl, ?_⟩)))⟩
  walk_at "sl"
  refine wO_catT (szOk (by have := cutA_len [D.A.tup (g.parts.map Pt.a), .tup (g.ins.map D.A.str), .tup (aIts g.body), .tup (g.outs.map D.A.str)] (some 1) none; simp only [List.length_cons, List.length_nil] at *; omega)) ?_
  exact q (ah1 g q1 i0) (c + 1 + 1) μ2 (ah1_ok B hq1 hi hzz) (by omega) lx2 ls02
  refine wSs_nil ?_
  refine wSs_cons (wS_set 5 (wE_tup (wA_cons (wE_str (wA_cons (wE_str (wA_cons (wE_str (wA_cons (wE_tup (wA_cons (wE_ix (wE_lstF (wA_cons (wE_str (wA_cons (wE_str (wA_nil ⟨by show 2 ≤ sizeLine; decide, (wE_cal C__law_draw ar (by omega) (wA_cons (wE_name 0 rfl (wA_cons (wE_int (wA_nil ?_))))))⟩))))))))))))))))) nd)
  refine ⟨m, l, 2, c + 1 + 1, _, _, rfl, by decide, by decide, lx2, by omega, fun r3 μ3 d0 d1 lx3 ls3 => ?_⟩
  refine wI_lstEx d0 (by simp only [List.length_cons, List.length_nil]; omega) (fun y hy => ?_)
  obtain ⟨c1, hc1, rfl⟩ : ∃ c1 : Str, (c1 = "zza" ∨ c1 = "zzb") ∧ y = .str c1 := by
    simp only [List.mem_cons, List.not_mem_nil, or_false] at hy
    rcases hy with rfl | rfl
    · exact ⟨_, .inl rfl, rfl⟩
    · exact ⟨_, .inr rfl, rfl⟩
  refine wA_cons (wE_ix (wE_name 2 rfl (wE_int ?_)))
  refine wI_tup hat ?_
  refine wA_nil ⟨by show 2 ≤ sizeLine; decide, (wA_nil ⟨by show 4 ≤ sizeLine; decide, (wSs_cons (wS_set 6 (wE_tup (wA_cons (wE_tup (wA_cons (wE_str (wA_cons (wE_slice (wE_name 2 rfl (wE_int ⟨_, rfl, ?_⟩))))))))) nd))⟩)⟩
  refine wSl_tup ?_
  rw [hcut]
  refine wA_cons (wE_tup (wA_cons (wE_name 5 rfl (wA_nil ⟨by show 1 ≤ sizeLine; decide, (wA_cons (wE_ix (wE_name 2 rfl (wE_int ?_))))⟩))))
  refine wI_tup hat ?_
  refine wA_nil ⟨by show 4 ≤ sizeLine; decide, (wA_cons (wE_tup (wA_cons (wE_str (wA_cons (wE_slice (wE_name 2 rfl (wE_int ⟨_, rfl, ?_⟩))))))))⟩
  refine wSl_tup ?_
  rw [hcut]
  refine wA_cons (wE_tup (wA_nil ⟨by show 0 ≤ sizeLine; decide, (wA_cons (wE_ix (wE_name 2 rfl (wE_int ?_))))⟩))
  refine wI_tup hat ?_
  refine wA_nil ⟨by show 4 ≤ sizeLine; decide, (wA_nil ⟨by show 2 ≤ sizeLine; decide, ?_⟩)⟩
  refine wSs_cons (wS_ret (wE_bin (wE_tup (wA_cons (wE_bin (wE_name 6 rfl (wE_ix (wE_name 1 rfl (wE_int ?_)))))))))
  walk_at "ix"
  refine wO_catT (szOk (by rw [List.length_map]; simp only [List.length_cons, List.length_nil]; omega)) ?_
  refine wA_nil ⟨by show 1 ≤ sizeLine; decide, (wE_slice (wE_name 1 rfl (wE_int ⟨_, rfl, ?_⟩)))⟩
  walk_at "sl"
  refine wO_catT (szOk (by have := cutA_len [D.A.tup (g.parts.map Pt.a), .tup (g.ins.map D.A.str), .tup (aIts g.body), .tup (g.outs.map D.A.str)] (some 1) none; simp only [List.length_cons, List.length_nil] at *; omega)) ?_
  exact q (ah2 g c1 i0) (c + 1 + 1 + 1) μ3 (ah2_ok B hc1 hi) (by omega) lx3 (ls02.trans ls3)

end
end D

namespace D
open PySem PySem.Spec PyProof.Rows L2
local macro_rules | `(tactic| walk_at "mul") => `(tactic| first | refine wO_mul (mulR (by first | decide | omega) (by first | decide | omega)) ?_ | refine wO_mul (mulL (by first | decide | omega) (by first | decide | omega)) ?_)
local macro_rules | `(tactic| walk_at "mod") => `(tactic| refine wO_mod (by first | decide | omega) ?_)
local macro_rules | `(tactic| walk_at "fdiv") => `(tactic| refine wO_fdiv (by first | decide | omega) (divS (by first | decide | omega)) ?_)
local macro_rules | `(tactic| walk_at "ix") => `(tactic| first | refine wI_tup (by rfl) ?_ | refine wI_lst (by rfl) ?_)
local macro_rules | `(tactic| walk_at "sl") => `(tactic| first | refine wSl_tup ?_ | refine wSl_lstF ?_)
local macro_rules | `(tactic| walk_at "obj") => `(tactic| refine ⟨_, _, _, rfl, by assumption, rfl, ?_⟩)
local macro_rules | `(tactic| walk_at "len") => `(tactic| first | refine wC_len (.tup _) ?_ | refine wC_len (.lst _) ?_ | refine wC_len (.loc (by assumption)) ?_)
section
variable {P : Program} {w : World} {mg : Str → Option Value} {base : Heap} {K : PySem.W.Frag} {CL CP CTL CTe CPr CPo CNV CTG CCo CS pT : Addr} {k : Nat}
abbrev s_law : Stmt := topS 62
abbrev N_law : List Str := ["_law_script", "_law_m", "_law_k", "_law_plain", "_law_turn", "_law_thing_here", "_law_time", "_law_due"]
theorem sc_law : FnScope N_law ["_law_script"] (defScope s_law) := ⟨rfl, rfl, rfl, by decide +kernel, rfl, by decide +kernel, by decide +kernel⟩
structure ThG (t : Nat) (zs : List Addr) (x : D.A) : Prop where
  gd : gdA zs x
  ln : lnA (80 + t) x
  sh : ∀ y ∈ tupOf x, shA (6 + t) y
  dp : deep x ≤ 20 + 3 * t
  sz : shl x + 200 ≤ 1100200 * 2 ^ t
theorem PgB.th {g : Pg} (B : PgB g) : ThG 0 [] g.a := by
  obtain ⟨r1, r2⟩ := B.root
  refine ⟨r1, ⟨Nat.le_of_ble_eq_true rfl, ?_⟩, r2, B.dp, by have := B.sz; omega⟩
  simp only [Pg.a, shA]
  refine shs_of fun y hy => ⟨?_, sh_up (by decide) (r2 y hy)⟩
  simp only [List.mem_cons, List.not_mem_nil, or_false] at hy
  rcases hy with rfl | rfl | rfl | rfl
  · show (g.parts.map Pt.a).length ≤ _
    rw [List.length_map]; have := B.pl; omega
  · show (g.ins.map D.A.str).length ≤ _
    rw [List.length_map]; have := B.il; omega
  · show (aIts g.body).length ≤ _
    rw [aIts_len]; exact B.bl
  · show (g.outs.map D.A.str).length ≤ _
    rw [List.length_map]; have := B.ol; omega
theorem ThG.up {t : Nat} {zs zs2 : List Addr} {x : D.A} (h : ThG t zs x) (u : ∀ p ∈ zs, p ∈ zs2) : ThG (t + 1) zs2 x :=
  ⟨gd_up u h.gd, ⟨Nat.le_trans h.ln.1 (by omega), sh_up (by omega) h.ln.2⟩, fun y hy => sh_up (by omega) (h.sh y hy), by have := h.dp; omega, by have := h.sz; rw [Nat.pow_succ]; omega⟩
theorem ThG.put {t : Nat} {zs zs2 : List Addr} {x y : D.A} (h : ThG t zs x) (ht : t ≤ 1) (u : ∀ p ∈ zs, p ∈ zs2) (r : PutR zs2 x y) : ThG (t + 1) zs2 y := by
  obtain ⟨a, b⟩ := put_sh (n := 80 + t) (by omega) r
  refine ⟨put_gd (n := 80 + t) (by omega) r (gd_up u h.gd) h.ln, ⟨b h.ln.1 h.ln.2, a h.ln.2⟩, put_rt (n := 6 + t) (by omega) r h.sh, by have := put_deep r; have := h.dp; omega, ?_⟩
  have := put_shl r
  have := h.sz
  rw [Nat.pow_succ]; omega
theorem ThG.ask {t : Nat} {zs : List Addr} {x : D.A} (h : ThG t zs x) (ht : t ≤ 2) : shl x ≤ 9 * 10 ^ 6 ∧ ∀ y ∈ tupOf x, shA 8 y := by
  refine ⟨?_, fun y hy => sh_up (by omega) (h.sh y hy)⟩
  have := h.sz
  have : 2 ^ t ≤ 2 ^ 2 := Nat.pow_le_pow_right (by decide) ht
  omega
theorem turn_le {C t c : Nat} (h : c ≤ C + 4 * t + 1 + 3) : c ≤ C + 4 * (t + 1) := by omega
theorem zs_nil {μ : Mu} : Zs μ [] := fun p hp => nomatch hp
def endA : D.A := .tup [.tup [], .tup [.str "a"], .tup [], .tup [.str "a"]]
def endB : D.A := .tup [.tup [], .tup [], .tup [], .tup []]
theorem end_a : gdA [] endA ∧ shl endA ≤ 9 * 10 ^ 6 ∧ (∀ y ∈ tupOf endA, shA 8 y) ∧ progA endA = true := by
  refine ⟨?_, by decide +kernel, ?_, by decide +kernel⟩
  · simp only [endA, gdA, gds]; decide +kernel
  · intro y hy
    have hy2 : y ∈ [D.A.tup [], .tup [.str "a"], .tup [], .tup [.str "a"]] := hy
    simp only [List.mem_cons, List.not_mem_nil, or_false] at hy2
    rcases hy2 with rfl | rfl | rfl | rfl <;> simp [shA, shs, tupOf]
theorem end_b : gdA [] endB ∧ shl endB ≤ 9 * 10 ^ 6 ∧ (∀ y ∈ tupOf endB, shA 8 y) ∧ progA endB = false := by
  refine ⟨?_, by decide +kernel, ?_, by decide +kernel⟩
  · simp only [endB, gdA, gds]; decide +kernel
  · intro y hy
    have hy2 : y ∈ [D.A.tup [], .tup [], .tup [], .tup []] := hy
    simp only [List.mem_cons, List.not_mem_nil, or_false] at hy2
    rcases hy2 with rfl | rfl | rfl | rfl <;> simp [shA, shs]
def c_law : AC := fun xs μ Q _ => ∃ ns : List Int, xs = [.fls (ns.map D.A.int)] ∧ ns.length ≤ 63 ∧ ∀ μ', Q (.bl true) μ'
theorem ok_law {n : Nat}  {f : Addr} {fd : FuncData} (TX : Txt K mg w CL CP CTL CTe CPr CPo CNV CTG CCo CS pT) (C__law_begun : Cal P w K mg base n "_law_begun" c__law_begun) (C__law_program : Cal P w K mg base n "_law_program" c__law_program) (C__law_refused : Cal P w K mg base n "_law_refused" (c__law_refused CPr)) (C__law_ahead : Cal P w K mg base n "_law_ahead" c__law_ahead) (C__law_is_program : Cal P w K mg base n "_law_is_program" c__law_is_program) (C__law_draw : Cal P w K mg base n "_law_draw" c__law_draw) (C__law_put : Cal P w K mg base n "_law_put" (c__law_put 27)) (C__law_many : Cal P w K mg base n "_law_many" (c__law_many 27)) (F : Fun K "law" "law" s_law f fd) : FnD P w K mg base CX0 (n + 1) f fd ["_law_script"] c_law := by
  refine fnD F sc_law (fun xs μ Q E hc => by obtain ⟨ns, rfl, hn, q⟩ := hc; rfl) (fun cdv Ao outer s H E xs μ Q E0 ar hc => ?_)
  obtain ⟨ns, rfl, hn, q⟩ := hc
  have nd := sc_law.nd
  refine wSs_cons (wS_set 1 (wE_cal C__law_begun ar (by omega) (wA_cons (wE_name 0 rfl (wA_nil ?_)))) nd)
  refine ⟨ns, rfl, hn, fun m l μ1 nm lw sb => ?_⟩
  refine wSs_cons (wS_for (wIt_range1 TX.b_range (wA_cons (wE_bin (wE_int (wE_callB (id := "min") TX.b_min (by decide +kernel) (wA_cons (wE_int (wA_cons (wE_callB (id := "len") TX.b_len (by decide +kernel) (wA_cons (wE_name 0 rfl (wA_nil ?_)))))))))))))
  refine wC_len (.fls _) ?_
  rw [List.length_map]
  refine wA_nil ?_
  refine wC_min2 (by rfl) ?_
  generalize hmn : (if (ns.length : Int) < 15 then (ns.length : Int) else 15) = mn
  have m0 : 0 ≤ mn := by rw [← hmn]; split <;> omega
  have m1 : mn ≤ 15 := by rw [← hmn]; split <;> omega
  refine wO_add ?_
  refine wA_nil ⟨_, rfl, by omega, by omega, ?_⟩
  refine ⟨fun i Γ' μ' => ∃ x2 x3 x4 x5 x6 x7 : Option D.A, Γ' = [some (.fls (ns.map D.A.int)), some (.loc m), x2, x3, x4, x5, x6, x7] ∧ ∃ rm mo, Lx m l (i * 60000) rm mo μ', ⟨_, _, _, _, _, _, rfl, _, _, lw.up (by omega)⟩, fun i y Γ' μ' hy hI => ?_, fun Γ' μ' hI => ?_⟩
  obtain ⟨x2, x3, x4, x5, x6, x7, rfl, rm, mo, lx⟩ := hI
  obtain ⟨hi, rfl⟩ := rgA_at hy
  have hi2 : i ≤ 16 := by omega
  refine wG_name 2 ?_ nd
  refine wSs_cons (wS_set 3 (wE_cal C__law_program ar (by omega) (wA_cons (wE_name 1 rfl (wA_cons (wE_int (wA_nil ?_)))))) nd)
  refine ⟨m, l, _, _, _, 8, rfl, lx, by omega, by decide, fun g rm1 ns1 μ2 ok sm nb hzz lx2 ls2 => ?_⟩
  have B := Pg.gd ok sm nb
  have T0 := B.th
  have gA : progA g.a = true := ok_prog ok
  refine wSs_cons (wS_if (wT_cmp (wE_cal C__law_refused ar (by omega) (wA_cons (wE_cal C__law_ahead ar (by omega) (wA_cons (wE_name 1 rfl (wA_cons (wE_name 3 rfl (wA_nil ?_))))))))))
  refine ⟨m, l, _, _, _, g, rfl, lx2, by omega, B, hzz, fun xa c3 μ3 ha hc3 lx3 ls3 => ?_⟩
  refine wA_nil ?_
  refine ⟨[], xa, rfl, ha.gd, zs_nil, Nat.le_trans ha.sz (Nat.le_of_ble_eq_true rfl), ha.sh, fun μ4 s4 => ?_⟩
  rw [show (if progA xa = true then ("let" : Str) else "refused") = "refused" by rw [ha.no]; rfl]
  have lx4 := lx3.sub s4
  refine wE_str ?_
  refine wO_neS ?_
  refine ⟨_, rfl, ?_⟩
  refine ⟨fun hk => ?_, fun hk => ?_⟩
  refine wSs_cons (wS_ret (wE_bl ?_))
  simp at hk
  refine wSs_nil ?_
  refine wSs_cons (wS_if ?_)
  refine wT.imp (QB := fun k μ' => k = false ∧ Sub μ4 μ') ?_ (fun k μ' hq => ?_)
  refine wT_chain (wW_or (wT_cmp (wE_cal C__law_refused ar (by omega) (wA_cons (wE_name 3 rfl (wA_nil ?_))))))
  refine ⟨[], g.a, rfl, T0.gd, zs_nil, (T0.ask (by decide)).1, (T0.ask (by decide)).2, fun μ5 s5 => ?_⟩
  rw [if_pos gA]
  refine wE_str ?_
  refine wO_neS ?_
  refine ⟨_, rfl, ?_⟩
  refine ⟨fun hk => ?_, fun hk => ?_⟩
  · simp at hk
  refine wW_or1 (wT_not (wT_val (wE_cal C__law_is_program ar (by omega) (wA_cons (wE_name 3 rfl (wA_nil ?_))))))
  refine ⟨[], g.a, rfl, T0.gd, zs_nil, (T0.ask (by decide)).1, fun μ6 s6 => ?_⟩
  rw [prog_same (T0.ask (by decide)).2, gA]
  refine ⟨_, rfl, ?_⟩
  exact ⟨rfl, s5.trans s6⟩
  obtain ⟨rfl, s7⟩ := hq
  have lx7 := lx4.sub s7
  refine ⟨fun hk => ?_, fun hk => ?_⟩
  refine wSs_cons (wS_ret (wE_bl ?_))
  exact nomatch hk
  refine wSs_nil ?_
  refine wSs_cons (wS_for (wIt_range1 TX.b_range (wA_cons (wE_int (wA_nil ⟨_, rfl, by omega, by omega, ?_⟩)))))
  refine ⟨fun j Γ' μ' => ∃ x4 x5 x6 x7 : Option D.A, Γ' = [some (.fls (ns.map D.A.int)), some (.loc m), some (.int (0 + (i : Int))), some g.a, x4, x5, x6, x7] ∧ Lx m l (i * 60000 + 50010 + 9 * j) rm1 (some ns1) μ', ⟨_, _, _, _, rfl, lx7.up (Nat.le_trans hc3 (by rw [Nat.mul_zero]; omega))⟩, fun j y Γ' μ' hy hI => ?_, fun Γ' μ' hI => ?_⟩
  obtain ⟨x4, x5, x6, x7, rfl, lx⟩ := hI
  obtain ⟨hj, rfl⟩ := rgA_at hy
  have hj2 : j < 6 := by omega
  refine wG_name 4 ?_ nd
  refine wSs_cons (wS_set 5 (wE_name 3 rfl (wSs_cons (wS_for (wIt_range1 TX.b_range (wA_cons (wE_bin (wE_int (wE_cal C__law_draw ar (by omega) (wA_cons (wE_name 1 rfl (wA_cons (wE_int (wA_nil ?_))))))))))))) nd)
  refine ⟨m, l, 2, _, _, _, rfl, by decide, by decide, lx, by omega, fun r μ8 r0 r1 lx8 ls8 => ?_⟩
  refine wO_add ?_
  refine wA_nil ⟨_, rfl, by omega, by omega, ?_⟩
  refine ⟨fun t Γ' μ' => ∃ (zs : List Addr) (x : D.A) (x6 : Option D.A), Γ' = [some (.fls (ns.map D.A.int)), some (.loc m), some (.int (0 + (i : Int))), some g.a, some (.int (0 + (j : Int))), some x, x6, x7] ∧ t ≤ 2 ∧ ThG t zs x ∧ Zs μ' zs ∧ Lx m l (i * 60000 + 50010 + 9 * j + 1 + 4 * t) rm1 (some ns1) μ', ⟨[], _, _, rfl, by decide, T0, zs_nil, lx8.up (Nat.le_of_eq (Nat.add_zero _).symm)⟩, fun t y Γ' μ' hy hI => ?_, fun Γ' μ' hI => ?_⟩
  obtain ⟨zs, x, x6, rfl, ht, T, hz, lx⟩ := hI
  obtain ⟨ht1, rfl⟩ := rgA_at hy
  have ht2 : t ≤ 1 := by omega
  refine wG_name 6 ?_ nd
  refine wSs_cons (wS_set 5 (wE_cal C__law_put ar (by omega) (wA_cons (wE_name 1 rfl (wA_cons (wE_name 5 rfl (wA_cons (wE_lst (wA_cons (wE_cal C__law_draw ar (by omega) (wA_cons (wE_name 1 rfl (wA_cons (wE_cal C__law_many ar (by omega) (wA_cons (wE_name 5 rfl (wA_nil ?_)))))))))))))))) nd)
  refine ⟨zs, x, rfl, T.gd, hz, by have := T.dp; omega, ?_⟩
  refine wA_nil ?_
  refine ⟨m, l, _, _, _, _, rfl, by have := many_pos x; omega, Int.lt_of_le_of_lt (b := 9000001) (by have := many_le x; have := (T.ask ht).1; omega) (by decide +kernel), lx, by omega, fun r2 μ9 p0 p1 lx9 ls9 => ?_⟩
  obtain ⟨mz, lz⟩ := lx.zs hz
  have hz9 := hz.ls2 mz lz ls9
  refine wA_nil ⟨by show 1 ≤ sizeLine; decide, fun pl npl => (wA_nil ?_)⟩
  refine ⟨m, l, pl, _, _, _, r2, zs, x, rfl, ⟨lx9.new npl, hz9.sub (Sub.new npl), Mu.upd_same, (lx9.off npl).1, (lx9.off npl).2⟩, fun _ => by omega, T.gd, ⟨Nat.le_trans T.ln.1 (by omega), sh_up (by omega) T.ln.2⟩, by have := T.dp; omega, fun zs2 y c2 cn2 μ10 u S10 ls10 R => ?_⟩
  refine wSs_nil ?_
  refine ⟨zs2, y, _, rfl, by omega, ?_, S10.z, S10.lx.up ?_⟩
  · rcases R.2 with ⟨rfl, _, _⟩ | ⟨_, _, R, _⟩
    · exact T.up u
    · exact T.put ht2 u R
  · refine turn_le (R.2.elim (fun h => ?_) fun h => h.2.2.2)
    rw [h.2.1]; exact Nat.le_add_right _ 3
  obtain ⟨zs, x, x6, rfl, ht, T, hz, lx⟩ := hI
  obtain ⟨k1, k2⟩ := T.ask ht
  refine wSs_cons (wS_set 7 (wE_ix (wE_lstF (wA_cons (wE_str (wA_cons (wE_str (wA_nil ⟨by show 2 ≤ sizeLine; decide, (wE_callTy (T := "int") TX.b_int (by decide +kernel) (wA_cons (wE_cal C__law_is_program ar (by omega) (wA_cons (wE_name 5 rfl (wA_nil ?_))))))⟩))))))) nd)
  refine ⟨zs, x, rfl, T.gd, hz, k1, fun μ11 s11 => ?_⟩
  rw [prog_same k2]
  refine wA_nil ?_
  refine wC_intB ?_
  refine wI_lst (y := .str (if progA x = true then "let" else "refused")) (by cases progA x <;> rfl) ?_
  refine wSs_cons (wS_if ?_)
  refine wT.imp (QB := fun k μ' => k = false ∧ Sub μ11 μ') ?_ (fun k μ' hq => ?_)
  refine wT_chain (wW_or (wT_cmp (wE_cal C__law_refused ar (by omega) (wA_cons (wE_name 5 rfl (wA_nil ?_))))))
  refine ⟨zs, x, rfl, T.gd, hz.sub s11, k1, k2, fun μ12 s12 => ?_⟩
  refine wE_name 7 rfl ?_
  refine wO_neS ?_
  refine ⟨_, rfl, ?_⟩
  refine ⟨fun hk => ?_, fun hk => ?_⟩
  · simp at hk
  refine wW_or1 (wT_cmp (wE_cal C__law_refused ar (by omega) (wA_cons (wE_name 5 rfl (wA_nil ?_)))))
  refine ⟨zs, x, rfl, T.gd, hz.sub (s11.trans s12), k1, k2, fun μ13 s13 => ?_⟩
  refine wE_name 7 rfl ?_
  refine wO_neS ?_
  refine ⟨_, rfl, ?_⟩
  exact ⟨by simp, s12.trans s13⟩
  obtain ⟨rfl, s14⟩ := hq
  refine ⟨fun hk => ?_, fun hk => ?_⟩
  refine wSs_cons (wS_ret (wE_bl ?_))
  exact nomatch hk
  refine wSs_nil ?_
  refine wSs_nil ?_
  exact ⟨_, _, _, _, rfl, ((lx.sub s11).sub s14).up (by omega)⟩
  obtain ⟨x4, x5, x6, x7, rfl, lx⟩ := hI
  have e6 : (rgA 0 (Int.toNat 6)).length = 6 := rfl
  rw [e6] at lx
  refine wSs_nil ?_
  exact ⟨_, _, _, _, _, _, rfl, _, _, lx.up (by omega)⟩
  obtain ⟨x2, x3, x4, x5, x6, x7, rfl, rm, mo, lx⟩ := hI
  refine wSs_cons (wS_ret ?_)
  refine wE_and (wE_cmp (wE_cal C__law_refused ar (by omega) (wA_cons (wE_tup (wA_cons (wE_tup (wA_nil ⟨by show 0 ≤ sizeLine; decide, (wA_cons (wE_tup (wA_cons (wE_str (wA_nil ⟨by show 1 ≤ sizeLine; decide, (wA_cons (wE_tup (wA_nil ⟨by show 0 ≤ sizeLine; decide, (wA_cons (wE_tup (wA_cons (wE_str (wA_nil ⟨by show 1 ≤ sizeLine; decide, (wA_nil ⟨by show 4 ≤ sizeLine; decide, (wA_nil ?_)⟩)⟩)))))⟩)))⟩)))))⟩)))))))
  refine ⟨[], endA, rfl, end_a.1, zs_nil, end_a.2.1, end_a.2.2.1, fun μ15 s15 => ?_⟩
  rw [if_pos end_a.2.2.2]
  refine wE_str ?_
  refine wO_eqS ?_
  refine ⟨_, rfl, and_flip (fun hk => ?_) (fun hk => ?_)⟩
  · simp at hk
  refine wE_one (wE_cmp (wE_cal C__law_refused ar (by omega) (wA_cons (wE_tup (wA_cons (wE_tup (wA_nil ⟨by show 0 ≤ sizeLine; decide, (wA_cons (wE_tup (wA_nil ⟨by show 0 ≤ sizeLine; decide, (wA_cons (wE_tup (wA_nil ⟨by show 0 ≤ sizeLine; decide, (wA_cons (wE_tup (wA_nil ⟨by show 0 ≤ sizeLine; decide, (wA_nil ⟨by show 4 ≤ sizeLine; decide, (wA_nil ?_)⟩)⟩)))⟩)))⟩)))⟩)))))))
  refine ⟨[], endB, rfl, end_b.1, zs_nil, end_b.2.1, end_b.2.2.1, fun μ16 s16 => ?_⟩
  rw [show (if progA endB = true then ("let" : Str) else "refused") = "refused" by rw [end_b.2.2.2]; rfl]
  refine wE_str ?_
  refine wO_eqS ?_
  exact q _

end
end D

set_option pp.maxSteps 5000
namespace D
open PySem PySem.Spec PyProof.Rows L2
structure Far (P : Program) (base : Heap) : Prop where
  dig : base.NoDigits
  seer : base.NoSeer
  tree : P.given.tree = none
section
variable {X : Cx} {k : Nat} {μ : Mu} {Q : A → Mu → Prop}
theorem op_fdivF (far : Far X.prog X.base) (ar : Ar X k) (hk : 32 ≤ k) (hst : X.stack = X.env :: X.outer) (hg : X.env.scope.isGenerator = false) (hc : X.env.scope.isCoroutine = false) : OpR X (binaryOp .FloorDiv) (rI (fun _ j => j ≠ 0) fun i j => .int (i.fdiv j)) := by
  intro pins s σ H x y v u Q I rx ry h
  obtain ⟨i, j, rfl, rfl, nz, q⟩ := h
  obtain ⟨t, rfl⟩ := rx
  obtain ⟨t', rfl⟩ := ry
  have seer : SeerAt (model X.prog X.w) X.A s.heap := .of (far.seer.keeps I.bk) far.tree (by rw [I.ok.frames, hst]) hg hc I.ok.blt I.ok.glob
  have room : PylongRoom (model X.prog X.w) X.A s := .of I.nolimit (by have := ar.room.dp; show X.A.depth + 100 < _; omega) seer
  exact floordiv_int nz ⟨.int (i.fdiv j), H, I.tok _, ⟨_, rfl⟩, q⟩ (.inr room)
theorem wO_fdivF {i j : Int} (far : Far X.prog X.base) (ar : Ar X k) (hk : 32 ≤ k) (nz : j ≠ 0) (q : Q (.int (i.fdiv j)) μ) (hst : X.stack = X.env :: X.outer := by rfl) (hg : X.env.scope.isGenerator = false := by rfl) (hc : X.env.scope.isCoroutine = false := by rfl) : wO X (binaryOp .FloorDiv) (.int i) (.int j) μ Q :=
  wO_I (op_fdivF far ar hk hst hg hc) nz q
end
theorem Bd.mulFar {n m : Nat} {i j : Int} (hi : Bd n i) (hj : Bd m j) (hn : n + m ≤ 2 ^ 27) : IntMulOk i j := by
  have key : ∀ {x : Int} {k : Nat}, Bd k x → Builtin.Int.intBits x ≤ k + 0 := fun {x k} hx => by
    unfold Builtin.Int.intBits
    by_cases h : (x == 0) = true
    · rw [if_pos h]; omega
    · rw [if_neg h]
      have := (Nat.log2_lt (fun z => h (by rw [Int.natAbs_eq_zero.mp z]; rfl))).mpr hx
      omega
  have a := key hi
  have b := key hj
  unfold IntMulOk
  have e : Builtin.Int.intTooBig (Builtin.Int.intBits i + Builtin.Int.intBits j) = false := by
    unfold Builtin.Int.intTooBig
    rw [decide_eq_false_iff_not]
    have : bitsLine = 2 ^ 27 := rfl
    omega
  rw [e, Bool.and_false]
  exact Bool.false_ne_true
end D

namespace D
open PySem PySem.Spec PyProof.Rows L2
section
variable {P : Program} {w : World} {mg : Str → Option Value} {base : Heap} {K : PySem.W.Frag} {CL CP CTL CTe CPr CPo CNV CTG CCo CS pT : Addr}
theorem Cal.up {j k : Nat} {x : Str} {c : AC} (C : Cal P w K mg base j x c) (h : j ≤ k) : Cal P w K mg base k x c := ⟨C.ex.imp fun f => Exists.imp fun fd => Exists.imp fun ps r => ⟨r.1.up h, r.2⟩⟩
theorem CalX.up {j k : Nat} {x : Str} {c : AC} (C : CalX P w K mg base j x c) (h : j ≤ k) : CalX P w K mg base k x c := ⟨C.ex.imp fun f => Exists.imp fun fd => Exists.imp fun ps r => ⟨r.1.up h, r.2⟩⟩
theorem CalM.up {j k : Nat} {C : Addr} {m : Str} {c : AC} (D : CalM P w K mg base j C m c) (h : j ≤ k) : CalM P w K mg base k C m c := ⟨D.ex.imp fun f => Exists.imp fun fd => Exists.imp fun ps r => ⟨r.1.up h, r.2⟩⟩
theorem CalMX.up {j k : Nat} {C : Addr} {m : Str} {c : AC} (D : CalMX P w K mg base j C m c) (h : j ≤ k) : CalMX P w K mg base k C m c := ⟨D.ex.imp fun f => Exists.imp fun fd => Exists.imp fun ps r => ⟨r.1.up h, r.2⟩⟩
theorem CalK.up {j k : Nat} {x : Str} {C : Addr} {c : AC} (D : CalK P w K mg base j x C c) (h : j ≤ k) : CalK P w K mg base k x C c := ⟨D.ex.imp fun f => Exists.imp fun fd => Exists.imp fun ps r => ⟨r.1.up h, r.2⟩⟩
theorem vac_looked {f : Addr} {fd : FuncData} (F : Fun K "is_body" "Looked.is_body" s_Looked_is_body f fd) : FnD P w K mg base CX0 1 f fd ["self", "thing", "told", "deep"] (c_Looked_is_body CL 4) :=
  fnD (k := 0) F sc_Looked_is_body (fun xs μ Q E hc => by obtain ⟨zs, p, pp, t, Pn, s, x, d, rfl, r⟩ := hc; rfl) (fun cdv Ao outer s H E xs μ Q E0 ar hc => by
    obtain ⟨zs, p, pp, t, Pn, s, x, d, rfl, S, gd, hlo, hd3, q⟩ := hc
    omega)
theorem vac_body {f : Addr} {fd : FuncData} (F : Fun K "_law_body" "_law_body" s__law_body f fd) : FnD P w K mg base CX0 1 f fd ["_law_m", "_law_told", "_law_many_here", "_law_deep", "_law_parts"] (c__law_body 4) :=
  fnD (k := 0) F sc__law_body (fun xs μ Q E hc => by obtain ⟨m, l, pp, c, rm, ns, T, Pn, ps, many, d, rfl, r⟩ := hc; rfl) (fun cdv Ao outer s H E xs μ Q E0 ar hc => by
    obtain ⟨m, l, pp, c, rm, ns, T, Pn, ps, many, d, rfl, lw, hc, hTl, hT, hTn, hns, hn1, hn12, hpp, p1, p2, hps, hmany, hlo, hd, q⟩ := hc
    omega)
theorem vac_told {f : Addr} {fd : FuncData} (F : Fun K "_law_body_told" "_law_body_told" s__law_body_told f fd) : FnD P w K mg base CX0 1 f fd ["_law_body_here", "_law_told", "_law_counts", "_law_deep"] (c__law_body_told 4) :=
  fnD (k := 0) F sc__law_body_told (fun xs μ Q E hc => by obtain ⟨zs, x, t, cp, T, Cn, d, rfl, r⟩ := hc; rfl) (fun cdv Ao outer s H E xs μ Q E0 ar hc => by
    obtain ⟨zs, x, t, cp, T, Cn, d, rfl, gd, S, hlo, hd3, hlen, q⟩ := hc
    omega)
theorem many_zero {f : Addr} {fd : FuncData} (F : Fun K "_law_many" "_law_many" s__law_many f fd) : FnD P w K mg base CX0 1 f fd ["_law_thing_here"] (c__law_many 0) :=
  fnD (k := 0) F sc__law_many (fun xs μ Q E hc => by obtain ⟨zs, x, rfl, r⟩ := hc; rfl) (fun cdv Ao outer s H E xs μ Q E0 ar hc => by
    obtain ⟨zs, x, rfl, gd, hz, hd, q⟩ := hc
    omega)
theorem many_all {n : Nat} (hn : 1 ≤ n) (TX : Txt K mg w CL CP CTL CTe CPr CPo CNV CTG CCo CS pT) {f1 : Addr} {d1 : FuncData} (F1 : Fun K "_law_many" "_law_many" s__law_many f1 d1)
    (g1 : mg "_law_many" = some (.ref f1)) (k1 : PySem.W.keepIn K (.ref f1) = true) (b1 : Binds K d1 ["_law_thing_here"] []) : ∀ k, Cal P w K mg base (n + k) "_law_many" (c__law_many k)
  | 0 => ⟨_, _, _, (many_zero F1).up hn, g1, k1, b1⟩
  | k + 1 => ⟨_, _, _, (ok__law_many TX (C__law_many := many_all hn TX F1 g1 k1 b1 k) (F := F1)).up (by omega), g1, k1, b1⟩
theorem put_zero {f : Addr} {fd : FuncData} (F : Fun K "_law_put" "_law_put" s__law_put f fd) : FnD P w K mg base CX0 1 f fd ["_law_m", "_law_thing_here", "_law_at"] (c__law_put 0) :=
  fnD (k := 0) F sc__law_put (fun xs μ Q E hc => by obtain ⟨m, l, ap, c, rm, mo, cn, zs, x, rfl, r⟩ := hc; rfl) (fun cdv Ao outer s H E xs μ Q E0 ar hc => by
    obtain ⟨m, l, ap, c, rm, mo, cn, zs, x, rfl, S, hc0, gd, hl9, hdp, q⟩ := hc
    omega)
theorem put_all {n : Nat} (hn : 1 ≤ n) (TX : Txt K mg w CL CP CTL CTe CPr CPo CNV CTG CCo CS pT) (Co : Cal P w K mg base n "_law_odd" c__law_odd) {f1 : Addr} {d1 : FuncData} (F1 : Fun K "_law_put" "_law_put" s__law_put f1 d1)
    (g1 : mg "_law_put" = some (.ref f1)) (k1 : PySem.W.keepIn K (.ref f1) = true) (b1 : Binds K d1 ["_law_m", "_law_thing_here", "_law_at"] []) : ∀ k, Cal P w K mg base (n + k) "_law_put" (c__law_put k)
  | 0 => ⟨_, _, _, (put_zero F1).up hn, g1, k1, b1⟩
  | k + 1 => ⟨_, _, _, (ok__law_put TX (C__law_odd := Co.up (by omega)) (C__law_put := put_all hn TX Co F1 g1 k1 b1 k) (F := F1)).up (by omega), g1, k1, b1⟩
end
end D

set_option pp.maxSteps 300
namespace D
open PySem PySem.Spec PyProof.Rows L2
def keyS : Value → Option Str
  | .str x _ => some x
  | _ => none
theorem keysLit_each {P : Params} {l : List DictEntry} (h : ∀ e ∈ l, ∃ x t, e.key = .str x t ∧ e.hash = PyData.keyHash P x) : PySem.W.KeysLit P l := by
  induction l with
  | nil => trivial
  | cons e r ih => exact ⟨h e (.head _), ih fun d hd => h d (.tail _ hd)⟩
theorem keysLit_mk {P : Params} {l : List DictEntry} {ks : List Str} (h : l.map (fun d => (keyS d.key, d.hash)) = ks.map (fun k => (some k, PyData.keyHash P k))) : PySem.W.KeysLit P l :=
  keysLit_each fun e he => by
    have m : (keyS e.key, e.hash) ∈ ks.map (fun k => (some k, PyData.keyHash P k)) := h ▸ List.mem_map.mpr ⟨e, he, rfl⟩
    obtain ⟨k, _, q⟩ := List.mem_map.mp m
    obtain ⟨q1, q2⟩ : some k = keyS e.key ∧ PyData.keyHash P k = e.hash := by simpa using q
    cases ek : e.key <;> simp [ek, keyS] at q1
    subst q1; exact ⟨_, _, rfl, q2.symm⟩
theorem all_mk {l : PySem.W.OpenLaw} {w : World} {K : PySem.W.Frag} {h : Heap} {mg : Str → Option Value} {fa CL CP pT CTL CTe CPr CPo CNV CTG CCo CS f1 f2 f3 f4 f5 f6 f7 f8 f9 f10 f11 f12 f13 f14 f15 f16 f17 f18 f19 f20 f21 f22 f23 f24 f25 f26 f27 f28 f29 f30 f31 f32 f33 f34 f35 f36 f37 f38 f39 f40 f41 f42 f43 f44 : Addr} (X : K.In h) (G : h.Ns mainGlobals mg) (hfa : mg "law" = some (.ref fa)) (tr : l.prog.given.tree = none)
    {od1 an1 od2 an2 od3 an3 od4 an4 od5 an5 od6 an6 od7 an7 od8 an8 od9 an9 od10 an10 od11 an11 od12 an12 od13 an13 od14 an14 od15 an15 od16 an16 od17 an17 od18 an18 od19 an19 od20 an20 od21 an21 od22 an22 od23 an23 od24 an24 od25 an25 od26 an26 od27 an27 od28 an28 od29 an29 od30 an30 od31 an31 od32 an32 od33 an33 od34 an34 od35 an35 od36 an36 od37 an37 od38 an38 od39 an39 od40 an40 od41 an41 od42 an42 od43 an43 od44 an44 : Option Addr} {sl1 sl2 sl3 sl4 sl5 sl6 sl7 sl8 sl9 sl10 sl11 sl12 sl13 sl14 sl15 sl16 sl17 sl18 sl19 sl20 sl21 sl22 sl23 sl24 sl25 sl26 sl27 sl28 sl29 sl30 sl31 sl32 sl33 sl34 sl35 sl36 sl37 sl38 sl39 sl40 sl41 sl42 sl43 sl44 : Array (Option Value)} {oc1 kV1 dc1 pm1 cd1 ct1 oc2 kV2 dc2 pm2 cd2 ct2 oc3 kV3 dc3 pm3 cd3 ct3 oc4 kV4 dc4 pm4 cd4 ct4 oc5 kV5 dc5 pm5 cd5 ct5 oc6 kV6 dc6 pm6 cd6 ct6 oc7 kV7 dc7 pm7 cd7 ct7 oc8 kV8 dc8 pm8 cd8 ct8 oc9 kV9 dc9 pm9 cd9 ct9 oc10 kV10 dc10 pm10 cd10 ct10 oc11 kV11 dc11 pm11 cd11 ct11 oc12 kV12 dc12 pm12 cd12 ct12 oc13 kV13 dc13 pm13 cd13 ct13 oc14 kV14 dc14 pm14 cd14 ct14 oc15 kV15 dc15 pm15 cd15 ct15 oc16 kV16 dc16 pm16 cd16 ct16 oc17 kV17 dc17 pm17 cd17 ct17 oc18 kV18 dc18 pm18 cd18 ct18 oc19 kV19 dc19 pm19 cd19 ct19 oc20 kV20 dc20 pm20 cd20 ct20 oc21 kV21 dc21 pm21 cd21 ct21 oc22 kV22 dc22 pm22 cd22 ct22 oc23 kV23 dc23 pm23 cd23 ct23 oc24 kV24 dc24 pm24 cd24 ct24 oc25 kV25 dc25 pm25 cd25 ct25 oc26 kV26 dc26 pm26 cd26 ct26 oc27 kV27 dc27 pm27 cd27 ct27 oc28 kV28 dc28 pm28 cd28 ct28 oc29 kV29 dc29 pm29 cd29 ct29 oc30 kV30 dc30 pm30 cd30 ct30 oc31 kV31 dc31 pm31 cd31 ct31 oc32 kV32 dc32 pm32 cd32 ct32 oc33 kV33 dc33 pm33 cd33 ct33 oc34 kV34 dc34 pm34 cd34 ct34 oc35 kV35 dc35 pm35 cd35 ct35 oc36 kV36 dc36 pm36 cd36 ct36 oc37 kV37 dc37 pm37 cd37 ct37 oc38 kV38 dc38 pm38 cd38 ct38 oc39 kV39 dc39 pm39 cd39 ct39 oc40 kV40 dc40 pm40 cd40 ct40 oc41 kV41 dc41 pm41 cd41 ct41 oc42 kV42 dc42 pm42 cd42 ct42 oc43 kV43 dc43 pm43 cd43 ct43 oc44 kV44 dc44 pm44 cd44 ct44 : Value}
    (gCL : PySem.W.nsIn K mainGlobals "Looked" = some (some (.ref CL))) (pgCL : PySem.W.plainGet K CL Str.empty = true) (hdCL : PySem.W.hasDictIn K CL = true) (poCL : PySem.W.plainOver K CL = true) (saCL : PySem.W.findIn K (.ref CL) "__setattr__" = some (some (.builtin "object.__setattr__"))) (mkCL : PySem.W.makesIn K CL = true) (kcCL : PySem.W.keepIn K (.ref CL) = true)
    (gCP : PySem.W.nsIn K mainGlobals "Program" = some (some (.ref CP))) (pgCP : PySem.W.plainGet K CP Str.empty = true) (hdCP : PySem.W.hasDictIn K CP = true) (poCP : PySem.W.plainOver K CP = true) (saCP : PySem.W.findIn K (.ref CP) "__setattr__" = some (some (.builtin "object.__setattr__"))) (mkCP : PySem.W.makesIn K CP = true) (kcCP : PySem.W.keepIn K (.ref CP) = true)
    (a1 : PySem.W.nsIn K mainGlobals "_law_mixed" = some (some (.ref f1)))
    (l1 : K.lookup f1 = some ⟨oc1, od1, .func (PySem.W.fnOf "_law_mixed" "_law_mixed" (defArgs s__law_mixed) (defBody s__law_mixed) (defScope s__law_mixed) .none kV1 dc1 pm1 an1 cd1 ct1), sl1⟩) (c1 : PySem.W.codeIn K cd1 "_law_mixed" = true) (k1 : PySem.W.keepIn K (.ref f1) = true)
    (a2 : PySem.W.nsIn K mainGlobals "_law_folded" = some (some (.ref f2)))
    (l2 : K.lookup f2 = some ⟨oc2, od2, .func (PySem.W.fnOf "_law_folded" "_law_folded" (defArgs s__law_folded) (defBody s__law_folded) (defScope s__law_folded) .none kV2 dc2 pm2 an2 cd2 ct2), sl2⟩) (c2 : PySem.W.codeIn K cd2 "_law_folded" = true) (k2 : PySem.W.keepIn K (.ref f2) = true)
    (a3 : PySem.W.nsIn K mainGlobals "_law_draw" = some (some (.ref f3)))
    (l3 : K.lookup f3 = some ⟨oc3, od3, .func (PySem.W.fnOf "_law_draw" "_law_draw" (defArgs s__law_draw) (defBody s__law_draw) (defScope s__law_draw) .none kV3 dc3 pm3 an3 cd3 ct3), sl3⟩) (c3 : PySem.W.codeIn K cd3 "_law_draw" = true) (k3 : PySem.W.keepIn K (.ref f3) = true)
    (a4 : PySem.W.nsIn K mainGlobals "_law_begun" = some (some (.ref f4)))
    (l4 : K.lookup f4 = some ⟨oc4, od4, .func (PySem.W.fnOf "_law_begun" "_law_begun" (defArgs s__law_begun) (defBody s__law_begun) (defScope s__law_begun) .none kV4 dc4 pm4 an4 cd4 ct4), sl4⟩) (c4 : PySem.W.codeIn K cd4 "_law_begun" = true) (k4 : PySem.W.keepIn K (.ref f4) = true)
    (a5 : PySem.W.nsIn K mainGlobals "is_whole" = some (some (.ref f5)))
    (l5 : K.lookup f5 = some ⟨oc5, od5, .func (PySem.W.fnOf "is_whole" "is_whole" (defArgs s_is_whole) (defBody s_is_whole) (defScope s_is_whole) .none kV5 dc5 pm5 an5 cd5 ct5), sl5⟩) (c5 : PySem.W.codeIn K cd5 "is_whole" = true) (k5 : PySem.W.keepIn K (.ref f5) = true)
    (a6 : PySem.W.nsIn K mainGlobals "common" = some (some (.ref f6)))
    (l6 : K.lookup f6 = some ⟨oc6, od6, .func (PySem.W.fnOf "common" "common" (defArgs s_common) (defBody s_common) (defScope s_common) .none kV6 dc6 pm6 an6 cd6 ct6), sl6⟩) (c6 : PySem.W.codeIn K cd6 "common" = true) (k6 : PySem.W.keepIn K (.ref f6) = true)
    (a7 : PySem.W.nsIn K mainGlobals "is_fraction" = some (some (.ref f7)))
    (l7 : K.lookup f7 = some ⟨oc7, od7, .func (PySem.W.fnOf "is_fraction" "is_fraction" (defArgs s_is_fraction) (defBody s_is_fraction) (defScope s_is_fraction) .none kV7 dc7 pm7 an7 cd7 ct7), sl7⟩) (c7 : PySem.W.codeIn K cd7 "is_fraction" = true) (k7 : PySem.W.keepIn K (.ref f7) = true)
    (a8 : PySem.W.nsIn K mainGlobals "is_name" = some (some (.ref f8)))
    (l8 : K.lookup f8 = some ⟨oc8, od8, .func (PySem.W.fnOf "is_name" "is_name" (defArgs s_is_name) (defBody s_is_name) (defScope s_is_name) .none kV8 dc8 pm8 an8 cd8 ct8), sl8⟩) (c8 : PySem.W.codeIn K cd8 "is_name" = true) (k8 : PySem.W.keepIn K (.ref f8) = true)
    (a9 : PySem.W.nsIn K mainGlobals "are_names" = some (some (.ref f9)))
    (l9 : K.lookup f9 = some ⟨oc9, od9, .func (PySem.W.fnOf "are_names" "are_names" (defArgs s_are_names) (defBody s_are_names) (defScope s_are_names) .none kV9 dc9 pm9 an9 cd9 ct9), sl9⟩) (c9 : PySem.W.codeIn K cd9 "are_names" = true) (k9 : PySem.W.keepIn K (.ref f9) = true)
    (a10 : PySem.W.nsIn K mainGlobals "are_unlike" = some (some (.ref f10)))
    (l10 : K.lookup f10 = some ⟨oc10, od10, .func (PySem.W.fnOf "are_unlike" "are_unlike" (defArgs s_are_unlike) (defBody s_are_unlike) (defScope s_are_unlike) .none kV10 dc10 pm10 an10 cd10 ct10), sl10⟩) (c10 : PySem.W.codeIn K cd10 "are_unlike" = true) (k10 : PySem.W.keepIn K (.ref f10) = true)
    (a11 : PySem.W.nsIn K mainGlobals "is_among" = some (some (.ref f11)))
    (l11 : K.lookup f11 = some ⟨oc11, od11, .func (PySem.W.fnOf "is_among" "is_among" (defArgs s_is_among) (defBody s_is_among) (defScope s_is_among) .none kV11 dc11 pm11 an11 cd11 ct11), sl11⟩) (c11 : PySem.W.codeIn K cd11 "is_among" = true) (k11 : PySem.W.keepIn K (.ref f11) = true)
    (a12 : PySem.W.nsIn K mainGlobals "is_thing" = some (some (.ref f12)))
    (l12 : K.lookup f12 = some ⟨oc12, od12, .func (PySem.W.fnOf "is_thing" "is_thing" (defArgs s_is_thing) (defBody s_is_thing) (defScope s_is_thing) .none kV12 dc12 pm12 an12 cd12 ct12), sl12⟩) (c12 : PySem.W.codeIn K cd12 "is_thing" = true) (k12 : PySem.W.keepIn K (.ref f12) = true)
    (a13 : PySem.W.nsIn K mainGlobals "is_call" = some (some (.ref f13)))
    (l13 : K.lookup f13 = some ⟨oc13, od13, .func (PySem.W.fnOf "is_call" "is_call" (defArgs s_is_call) (defBody s_is_call) (defScope s_is_call) .none kV13 dc13 pm13 an13 cd13 ct13), sl13⟩) (c13 : PySem.W.codeIn K cd13 "is_call" = true) (k13 : PySem.W.keepIn K (.ref f13) = true)
    (a14 : PySem.W.nsIn K mainGlobals "is_doing" = some (some (.ref f14)))
    (l14 : K.lookup f14 = some ⟨oc14, od14, .func (PySem.W.fnOf "is_doing" "is_doing" (defArgs s_is_doing) (defBody s_is_doing) (defScope s_is_doing) .none kV14 dc14 pm14 an14 cd14 ct14), sl14⟩) (c14 : PySem.W.codeIn K cd14 "is_doing" = true) (k14 : PySem.W.keepIn K (.ref f14) = true)
    (a15 : PySem.W.findIn K (.ref CL) "__init__" = some (some (.ref f15))) (i15 : PySem.W.isFn K (.ref f15) = true)
    (l15 : K.lookup f15 = some ⟨oc15, od15, .func (PySem.W.fnOf "__init__" "Looked.__init__" (defArgs s_Looked___init__) (defBody s_Looked___init__) (defScope s_Looked___init__) .none kV15 dc15 pm15 an15 cd15 ct15), sl15⟩) (c15 : PySem.W.codeIn K cd15 "Looked.__init__" = true) (k15 : PySem.W.keepIn K (.ref f15) = true)
    (a16 : PySem.W.findIn K (.ref CL) "is_more" = some (some (.ref f16))) (i16 : PySem.W.isFn K (.ref f16) = true)
    (l16 : K.lookup f16 = some ⟨oc16, od16, .func (PySem.W.fnOf "is_more" "Looked.is_more" (defArgs s_Looked_is_more) (defBody s_Looked_is_more) (defScope s_Looked_is_more) .none kV16 dc16 pm16 an16 cd16 ct16), sl16⟩) (c16 : PySem.W.codeIn K cd16 "Looked.is_more" = true) (k16 : PySem.W.keepIn K (.ref f16) = true)
    (a17 : PySem.W.findIn K (.ref CL) "is_item" = some (some (.ref f17))) (i17 : PySem.W.isFn K (.ref f17) = true)
    (l17 : K.lookup f17 = some ⟨oc17, od17, .func (PySem.W.fnOf "is_item" "Looked.is_item" (defArgs s_Looked_is_item) (defBody s_Looked_is_item) (defScope s_Looked_is_item) .none kV17 dc17 pm17 an17 cd17 ct17), sl17⟩) (c17 : PySem.W.codeIn K cd17 "Looked.is_item" = true) (k17 : PySem.W.keepIn K (.ref f17) = true)
    (a18 : PySem.W.findIn K (.ref CL) "is_body" = some (some (.ref f18))) (i18 : PySem.W.isFn K (.ref f18) = true)
    (l18 : K.lookup f18 = some ⟨oc18, od18, .func (PySem.W.fnOf "is_body" "Looked.is_body" (defArgs s_Looked_is_body) (defBody s_Looked_is_body) (defScope s_Looked_is_body) .none kV18 dc18 pm18 an18 cd18 ct18), sl18⟩) (c18 : PySem.W.codeIn K cd18 "Looked.is_body" = true) (k18 : PySem.W.keepIn K (.ref f18) = true)
    (a19 : PySem.W.findIn K (.ref CL) "is_part" = some (some (.ref f19))) (i19 : PySem.W.isFn K (.ref f19) = true)
    (l19 : K.lookup f19 = some ⟨oc19, od19, .func (PySem.W.fnOf "is_part" "Looked.is_part" (defArgs s_Looked_is_part) (defBody s_Looked_is_part) (defScope s_Looked_is_part) .none kV19 dc19 pm19 an19 cd19 ct19), sl19⟩) (c19 : PySem.W.codeIn K cd19 "Looked.is_part" = true) (k19 : PySem.W.keepIn K (.ref f19) = true)
    (a20 : PySem.W.findIn K (.ref CL) "is_program" = some (some (.ref f20))) (i20 : PySem.W.isFn K (.ref f20) = true)
    (l20 : K.lookup f20 = some ⟨oc20, od20, .func (PySem.W.fnOf "is_program" "Looked.is_program" (defArgs s_Looked_is_program) (defBody s_Looked_is_program) (defScope s_Looked_is_program) .none kV20 dc20 pm20 an20 cd20 ct20), sl20⟩) (c20 : PySem.W.codeIn K cd20 "Looked.is_program" = true) (k20 : PySem.W.keepIn K (.ref f20) = true)
    (a21 : PySem.W.findIn K (.ref CP) "__init__" = some (some (.ref f21))) (i21 : PySem.W.isFn K (.ref f21) = true)
    (l21 : K.lookup f21 = some ⟨oc21, od21, .func (PySem.W.fnOf "__init__" "Program.__init__" (defArgs s_Program___init__) (defBody s_Program___init__) (defScope s_Program___init__) .none kV21 dc21 pm21 an21 cd21 ct21), sl21⟩) (c21 : PySem.W.codeIn K cd21 "Program.__init__" = true) (k21 : PySem.W.keepIn K (.ref f21) = true)
    (a22 : PySem.W.findIn K (.ref CP) "plain" = some (some (.ref f22))) (i22 : PySem.W.isFn K (.ref f22) = true)
    (l22 : K.lookup f22 = some ⟨oc22, od22, .func (PySem.W.fnOf "plain" "Program.plain" (defArgs s_Program_plain) (defBody s_Program_plain) (defScope s_Program_plain) .none kV22 dc22 pm22 an22 cd22 ct22), sl22⟩) (c22 : PySem.W.codeIn K cd22 "Program.plain" = true) (k22 : PySem.W.keepIn K (.ref f22) = true)
    (a23 : PySem.W.nsIn K mainGlobals "_law_names" = some (some (.ref f23)))
    (l23 : K.lookup f23 = some ⟨oc23, od23, .func (PySem.W.fnOf "_law_names" "_law_names" (defArgs s__law_names) (defBody s__law_names) (defScope s__law_names) .none kV23 dc23 pm23 an23 cd23 ct23), sl23⟩) (c23 : PySem.W.codeIn K cd23 "_law_names" = true) (k23 : PySem.W.keepIn K (.ref f23) = true)
    (a24 : PySem.W.nsIn K mainGlobals "_law_common" = some (some (.ref f24)))
    (l24 : K.lookup f24 = some ⟨oc24, od24, .func (PySem.W.fnOf "_law_common" "_law_common" (defArgs s__law_common) (defBody s__law_common) (defScope s__law_common) .none kV24 dc24 pm24 an24 cd24 ct24), sl24⟩) (c24 : PySem.W.codeIn K cd24 "_law_common" = true) (k24 : PySem.W.keepIn K (.ref f24) = true)
    (a25 : PySem.W.nsIn K mainGlobals "_law_lowest" = some (some (.ref f25)))
    (l25 : K.lookup f25 = some ⟨oc25, od25, .func (PySem.W.fnOf "_law_lowest" "_law_lowest" (defArgs s__law_lowest) (defBody s__law_lowest) (defScope s__law_lowest) .none kV25 dc25 pm25 an25 cd25 ct25), sl25⟩) (c25 : PySem.W.codeIn K cd25 "_law_lowest" = true) (k25 : PySem.W.keepIn K (.ref f25) = true)
    (a26 : PySem.W.nsIn K mainGlobals "_law_fraction" = some (some (.ref f26)))
    (l26 : K.lookup f26 = some ⟨oc26, od26, .func (PySem.W.fnOf "_law_fraction" "_law_fraction" (defArgs s__law_fraction) (defBody s__law_fraction) (defScope s__law_fraction) .none kV26 dc26 pm26 an26 cd26 ct26), sl26⟩) (c26 : PySem.W.codeIn K cd26 "_law_fraction" = true) (k26 : PySem.W.keepIn K (.ref f26) = true)
    (a27 : PySem.W.nsIn K mainGlobals "_law_thing" = some (some (.ref f27)))
    (l27 : K.lookup f27 = some ⟨oc27, od27, .func (PySem.W.fnOf "_law_thing" "_law_thing" (defArgs s__law_thing) (defBody s__law_thing) (defScope s__law_thing) .none kV27 dc27 pm27 an27 cd27 ct27), sl27⟩) (c27 : PySem.W.codeIn K cd27 "_law_thing" = true) (k27 : PySem.W.keepIn K (.ref f27) = true)
    (a28 : PySem.W.nsIn K mainGlobals "_law_row" = some (some (.ref f28)))
    (l28 : K.lookup f28 = some ⟨oc28, od28, .func (PySem.W.fnOf "_law_row" "_law_row" (defArgs s__law_row) (defBody s__law_row) (defScope s__law_row) .none kV28 dc28 pm28 an28 cd28 ct28), sl28⟩) (c28 : PySem.W.codeIn K cd28 "_law_row" = true) (k28 : PySem.W.keepIn K (.ref f28) = true)
    (a29 : PySem.W.nsIn K mainGlobals "_law_body" = some (some (.ref f29)))
    (l29 : K.lookup f29 = some ⟨oc29, od29, .func (PySem.W.fnOf "_law_body" "_law_body" (defArgs s__law_body) (defBody s__law_body) (defScope s__law_body) .none kV29 dc29 pm29 an29 cd29 ct29), sl29⟩) (c29 : PySem.W.codeIn K cd29 "_law_body" = true) (k29 : PySem.W.keepIn K (.ref f29) = true)
    (a30 : PySem.W.nsIn K mainGlobals "_law_program" = some (some (.ref f30)))
    (l30 : K.lookup f30 = some ⟨oc30, od30, .func (PySem.W.fnOf "_law_program" "_law_program" (defArgs s__law_program) (defBody s__law_program) (defScope s__law_program) .none kV30 dc30 pm30 an30 cd30 ct30), sl30⟩) (c30 : PySem.W.codeIn K cd30 "_law_program" = true) (k30 : PySem.W.keepIn K (.ref f30) = true)
    (a31 : PySem.W.nsIn K mainGlobals "_law_whole" = some (some (.ref f31)))
    (l31 : K.lookup f31 = some ⟨oc31, od31, .func (PySem.W.fnOf "_law_whole" "_law_whole" (defArgs s__law_whole) (defBody s__law_whole) (defScope s__law_whole) .none kV31 dc31 pm31 an31 cd31 ct31), sl31⟩) (c31 : PySem.W.codeIn K cd31 "_law_whole" = true) (k31 : PySem.W.keepIn K (.ref f31) = true)
    (a32 : PySem.W.nsIn K mainGlobals "_law_is_name" = some (some (.ref f32)))
    (l32 : K.lookup f32 = some ⟨oc32, od32, .func (PySem.W.fnOf "_law_is_name" "_law_is_name" (defArgs s__law_is_name) (defBody s__law_is_name) (defScope s__law_is_name) .none kV32 dc32 pm32 an32 cd32 ct32), sl32⟩) (c32 : PySem.W.codeIn K cd32 "_law_is_name" = true) (k32 : PySem.W.keepIn K (.ref f32) = true)
    (a33 : PySem.W.nsIn K mainGlobals "_law_is_row" = some (some (.ref f33)))
    (l33 : K.lookup f33 = some ⟨oc33, od33, .func (PySem.W.fnOf "_law_is_row" "_law_is_row" (defArgs s__law_is_row) (defBody s__law_is_row) (defScope s__law_is_row) .none kV33 dc33 pm33 an33 cd33 ct33), sl33⟩) (c33 : PySem.W.codeIn K cd33 "_law_is_row" = true) (k33 : PySem.W.keepIn K (.ref f33) = true)
    (a34 : PySem.W.nsIn K mainGlobals "_law_is_thing" = some (some (.ref f34)))
    (l34 : K.lookup f34 = some ⟨oc34, od34, .func (PySem.W.fnOf "_law_is_thing" "_law_is_thing" (defArgs s__law_is_thing) (defBody s__law_is_thing) (defScope s__law_is_thing) .none kV34 dc34 pm34 an34 cd34 ct34), sl34⟩) (c34 : PySem.W.codeIn K cd34 "_law_is_thing" = true) (k34 : PySem.W.keepIn K (.ref f34) = true)
    (a35 : PySem.W.nsIn K mainGlobals "_law_is_doing" = some (some (.ref f35)))
    (l35 : K.lookup f35 = some ⟨oc35, od35, .func (PySem.W.fnOf "_law_is_doing" "_law_is_doing" (defArgs s__law_is_doing) (defBody s__law_is_doing) (defScope s__law_is_doing) .none kV35 dc35 pm35 an35 cd35 ct35), sl35⟩) (c35 : PySem.W.codeIn K cd35 "_law_is_doing" = true) (k35 : PySem.W.keepIn K (.ref f35) = true)
    (a36 : PySem.W.nsIn K mainGlobals "_law_body_told" = some (some (.ref f36)))
    (l36 : K.lookup f36 = some ⟨oc36, od36, .func (PySem.W.fnOf "_law_body_told" "_law_body_told" (defArgs s__law_body_told) (defBody s__law_body_told) (defScope s__law_body_told) .none kV36 dc36 pm36 an36 cd36 ct36), sl36⟩) (c36 : PySem.W.codeIn K cd36 "_law_body_told" = true) (k36 : PySem.W.keepIn K (.ref f36) = true)
    (a37 : PySem.W.nsIn K mainGlobals "_law_is_part" = some (some (.ref f37)))
    (l37 : K.lookup f37 = some ⟨oc37, od37, .func (PySem.W.fnOf "_law_is_part" "_law_is_part" (defArgs s__law_is_part) (defBody s__law_is_part) (defScope s__law_is_part) .none kV37 dc37 pm37 an37 cd37 ct37), sl37⟩) (c37 : PySem.W.codeIn K cd37 "_law_is_part" = true) (k37 : PySem.W.keepIn K (.ref f37) = true)
    (a38 : PySem.W.nsIn K mainGlobals "_law_is_program" = some (some (.ref f38)))
    (l38 : K.lookup f38 = some ⟨oc38, od38, .func (PySem.W.fnOf "_law_is_program" "_law_is_program" (defArgs s__law_is_program) (defBody s__law_is_program) (defScope s__law_is_program) .none kV38 dc38 pm38 an38 cd38 ct38), sl38⟩) (c38 : PySem.W.codeIn K cd38 "_law_is_program" = true) (k38 : PySem.W.keepIn K (.ref f38) = true)
    (a39 : PySem.W.nsIn K mainGlobals "_law_many" = some (some (.ref f39)))
    (l39 : K.lookup f39 = some ⟨oc39, od39, .func (PySem.W.fnOf "_law_many" "_law_many" (defArgs s__law_many) (defBody s__law_many) (defScope s__law_many) .none kV39 dc39 pm39 an39 cd39 ct39), sl39⟩) (c39 : PySem.W.codeIn K cd39 "_law_many" = true) (k39 : PySem.W.keepIn K (.ref f39) = true)
    (a40 : PySem.W.nsIn K mainGlobals "_law_put" = some (some (.ref f40)))
    (l40 : K.lookup f40 = some ⟨oc40, od40, .func (PySem.W.fnOf "_law_put" "_law_put" (defArgs s__law_put) (defBody s__law_put) (defScope s__law_put) .none kV40 dc40 pm40 an40 cd40 ct40), sl40⟩) (c40 : PySem.W.codeIn K cd40 "_law_put" = true) (k40 : PySem.W.keepIn K (.ref f40) = true)
    (a41 : PySem.W.nsIn K mainGlobals "_law_odd" = some (some (.ref f41)))
    (l41 : K.lookup f41 = some ⟨oc41, od41, .func (PySem.W.fnOf "_law_odd" "_law_odd" (defArgs s__law_odd) (defBody s__law_odd) (defScope s__law_odd) .none kV41 dc41 pm41 an41 cd41 ct41), sl41⟩) (c41 : PySem.W.codeIn K cd41 "_law_odd" = true) (k41 : PySem.W.keepIn K (.ref f41) = true)
    (a42 : PySem.W.nsIn K mainGlobals "_law_refused" = some (some (.ref f42)))
    (l42 : K.lookup f42 = some ⟨oc42, od42, .func (PySem.W.fnOf "_law_refused" "_law_refused" (defArgs s__law_refused) (defBody s__law_refused) (defScope s__law_refused) .none kV42 dc42 pm42 an42 cd42 ct42), sl42⟩) (c42 : PySem.W.codeIn K cd42 "_law_refused" = true) (k42 : PySem.W.keepIn K (.ref f42) = true)
    (a43 : PySem.W.nsIn K mainGlobals "_law_ahead" = some (some (.ref f43)))
    (l43 : K.lookup f43 = some ⟨oc43, od43, .func (PySem.W.fnOf "_law_ahead" "_law_ahead" (defArgs s__law_ahead) (defBody s__law_ahead) (defScope s__law_ahead) .none kV43 dc43 pm43 an43 cd43 ct43), sl43⟩) (c43 : PySem.W.codeIn K cd43 "_law_ahead" = true) (k43 : PySem.W.keepIn K (.ref f43) = true)
    (a44 : PySem.W.nsIn K mainGlobals "law" = some (some (.ref f44)))
    (l44 : K.lookup f44 = some ⟨oc44, od44, .func (PySem.W.fnOf "law" "law" (defArgs s_law) (defBody s_law) (defScope s_law) .none kV44 dc44 pm44 an44 cd44 ct44), sl44⟩) (c44 : PySem.W.codeIn K cd44 "law" = true) (k44 : PySem.W.keepIn K (.ref f44) = true)
    (z0 : PySem.W.nsIn K mainGlobals "range" = some none)
    (z1 : PySem.W.nsIn K mainGlobals "len" = some none)
    (z2 : PySem.W.nsIn K mainGlobals "isinstance" = some none)
    (z3 : PySem.W.nsIn K mainGlobals "int" = some none)
    (z4 : PySem.W.nsIn K mainGlobals "bool" = some none)
    (z5 : PySem.W.nsIn K mainGlobals "str" = some none)
    (z6 : PySem.W.nsIn K mainGlobals "tuple" = some none)
    (z7 : PySem.W.nsIn K mainGlobals "list" = some none)
    (z8 : PySem.W.nsIn K mainGlobals "dict" = some none)
    (z9 : PySem.W.nsIn K mainGlobals "set" = some none)
    (z10 : PySem.W.nsIn K mainGlobals "all" = some none)
    (z11 : PySem.W.nsIn K mainGlobals "abs" = some none)
    (z12 : PySem.W.nsIn K mainGlobals "sum" = some none)
    (z13 : PySem.W.nsIn K mainGlobals "repr" = some none)
    (z14 : PySem.W.nsIn K mainGlobals "enumerate" = some none)
    (z15 : PySem.W.nsIn K mainGlobals "min" = some none)
    (z16 : PySem.W.nsIn K mainGlobals "zip" = some none)
    (z17 : PySem.W.nsIn K mainGlobals "max" = some none)
    {t18 : Tok} {x18 : Str} (z18 : PySem.W.nsIn K mainGlobals "LETTERS" = some (some (.str x18 t18))) (e18 : x18 = "abcdefghijklmnopqrstuvwxyz")
    {p19 : Addr} {i_19 : Array Value} {n19 : Nat} {y19 : Array (Option Value)} {d19 : Option Addr} (z19 : PySem.W.nsIn K mainGlobals "BARRED" = some (some (.ref p19))) (w19 : K.lookup p19 = some ⟨.type "tuple", d19, .seq i_19 n19, y19⟩) (e19 : i_19.toList.map strOf = BARS.map some)
    {t20 : Tok} (z20 : PySem.W.nsIn K mainGlobals "MOST_LETTERS" = some (some (.int 8 t20)))
    {t21 : Tok} (z21 : PySem.W.nsIn K mainGlobals "MOST_POWER" = some (some (.int 8 t21)))
    {t22 : Tok} (z22 : PySem.W.nsIn K mainGlobals "MOST_TURNS" = some (some (.int 200 t22)))
    {t23 : Tok} (z23 : PySem.W.nsIn K mainGlobals "MOST_DEEP" = some (some (.int 3 t23)))
    {t24 : Tok} (z24 : PySem.W.nsIn K mainGlobals "MOST_SIZE" = some (some (.int 80 t24)))
    {t25 : Tok} (z25 : PySem.W.nsIn K mainGlobals "MOST_INS" = some (some (.int 6 t25)))
    {t26 : Tok} (z26 : PySem.W.nsIn K mainGlobals "MOST_OUTS" = some (some (.int 4 t26)))
    {t27 : Tok} (z27 : PySem.W.nsIn K mainGlobals "MOST_PARTS" = some (some (.int 6 t27)))
    {t28 : Tok} (z28 : PySem.W.nsIn K mainGlobals "MOST_PART_INS" = some (some (.int 4 t28)))
    (z29 : PySem.W.nsIn K mainGlobals "TAKEN" = some (some (.ref pT)))
    {es30 : Array DictEntry} {n30 : Nat} (z30 : K.lookup pT = some ⟨.type "dict", none, .dict es30 n30, #[]⟩) (w30 : (pT == sysModules) = false) (e30 : es30.toList.map entI = TAKENL.map some) (h30 : es30.toList.map (fun d => (keyS d.key, d.hash)) = (TAKENL.map (·.1)).map fun k => (some k, PyData.keyHash w.params k))
    (z32 : PySem.W.findIn K (.ref CL) "parts" = some none)
    (z33 : PySem.W.findIn K (.ref CL) "many" = some none)
    (z35 : PySem.W.findIn K (.ref CP) "told" = some none)
    (z36 : PySem.W.findIn K (.ref CP) "many" = some none)
    (z37 : PySem.W.findIn K (.ref CP) "rows_of_parts" = some none)
    (z38 : PySem.W.nsIn K mainGlobals "BadText" = some (some (.ref CTe)))
    (z39 : PySem.W.nsIn K mainGlobals "BadProgram" = some (some (.ref CPr)))
    (z40 : PySem.W.nsIn K mainGlobals "TooLong" = some (some (.ref CTL)))
    (z41 : PySem.W.nsIn K mainGlobals "BadPoint" = some (some (.ref CPo)))
    (z42 : PySem.W.nsIn K mainGlobals "NoValue" = some (some (.ref CNV)))
    (z43 : PySem.W.nsIn K mainGlobals "TooGreat" = some (some (.ref CTG)))
    (z44 : PySem.W.nsIn K mainGlobals "Corner" = some (some (.ref CCo)))
    (z45 : PySem.W.nsIn K mainGlobals "BadProgram" = some (some (.ref CPr))) (y45 : PySem.W.excIn K CPr [.type "ValueError", .type "Exception", .type "BaseException", .type "object"] "ValueError.__new__" = true) (v45 : PySem.W.keepIn K (.ref CPr) = true) (u45 : PySem.W.subIn K (.ref CPr) (.type "BaseException") = some true) (s45 : PySem.W.typeIn K (.ref CPr) = some (.type "type"))
    (z46 : PySem.W.kitOne K (.ref CPr) (.ref CTe) = some false)
    (z47 : PySem.W.kitOne K (.ref CPr) (.ref CPr) = some true)
    (z48 : PySem.W.kitOne K (.ref CPr) (.ref CTL) = some false)
    (z49 : PySem.W.kitOne K (.ref CPr) (.ref CPo) = some false)
    (z50 : PySem.W.kitOne K (.ref CPr) (.ref CNV) = some false)
    (z51 : PySem.W.kitOne K (.ref CPr) (.ref CTG) = some false)
    (z52 : PySem.W.kitOne K (.ref CPr) (.ref CCo) = some false)
    (z53 : PySem.W.kitOne K (.ref CPr) (.type "ValueError") = some true)
    (hg54 : PySem.W.findIn K (.ref CPr) "__getattribute__" = some (some (.builtin "BaseException.__getattribute__")))
    (hk54 : PySem.W.findIn K (.ref CPr) "__getattr__" = some none)
    (hs54 : PySem.W.subIn K (.ref CPr) (.type "BaseException") = some true)
    (hd54 : PySem.W.hasDictIn K CPr = true)
    (ha54 : PySem.W.findIn K (.ref CPr) "__class__" = some (some (.builtin "object.__class__")))
    (hn54 : PySem.W.specialIn K (.builtin "object.__class__") "__get__" = some (some (.builtin "getset_descriptor.__get__")))
    (ht54 : PySem.W.takesIn K (.builtin "object.__class__") = some true)
    (hm54 : PySem.W.mroIn K CPr (.type "object") = some true)
    (z55 : PySem.W.exmOne K (.ref CPr) (.ref CS) = some true)
    (z56 : PySem.W.nsIn K mainGlobals "SlopeError" = some (some (.ref CS)))
    (z57 : PySem.W.nsIn K mainGlobals "ValueError" = some none)
    : ∃ fd : FuncData, (∀ (s : Shared) (v : Value), BindsTo s fd ⟨[v], []⟩ [("_law_script", v)]) ∧ ∀ base : Heap, K.In base → base.Ns mainGlobals mg → base.NoDigits → base.NoSeer → (∀ p ∈ ([] : List (Addr × Addr)), LamX.TabB base mg p.1 p.2) → FnD l.prog w K mg base CX0 58 fa fd ["_law_script"] c_law := by
  have e := hfa.symm.trans (PySem.W.mg_of X G a44)
  cases e
  have T : Txt K mg w CL CP CTL CTe CPr CPo CNV CTG CCo CS pT := ⟨PySem.W.mg_none_of X G z0, PySem.W.mg_none_of X G z1, PySem.W.mg_none_of X G z2, PySem.W.mg_none_of X G z3, PySem.W.mg_none_of X G z4, PySem.W.mg_none_of X G z5, PySem.W.mg_none_of X G z6, PySem.W.mg_none_of X G z7, PySem.W.mg_none_of X G z8, PySem.W.mg_none_of X G z9, PySem.W.mg_none_of X G z10, PySem.W.mg_none_of X G z11, PySem.W.mg_none_of X G z12, PySem.W.mg_none_of X G z13, PySem.W.mg_none_of X G z14, PySem.W.mg_none_of X G z15, PySem.W.mg_none_of X G z16, PySem.W.mg_none_of X G z17, kn_str X G z18 e18, kn_strs X G z19 w19 e19 (by decide), kn_int X G z20, kn_int X G z21, kn_int X G z22, kn_int X G z23, kn_int X G z24, kn_int X G z25, kn_int X G z26, kn_int X G z27, kn_int X G z28, ⟨.ref pT, _, PySem.W.mg_of X G z29, rfl, fun F => rep_loc.mpr rfl⟩, ⟨⟨es30, n30, z30, keysLit_mk h30, w30, e30⟩⟩, ⟨pgCL, hdCL, poCL, saCL⟩, z32, z33, ⟨pgCP, hdCP, poCP, saCP⟩, z35, z36, z37, ⟨.ref CTe, _, PySem.W.mg_of X G z38, rfl, fun F => rep_loc.mpr rfl⟩, ⟨.ref CPr, _, PySem.W.mg_of X G z39, rfl, fun F => rep_loc.mpr rfl⟩, ⟨.ref CTL, _, PySem.W.mg_of X G z40, rfl, fun F => rep_loc.mpr rfl⟩, ⟨.ref CPo, _, PySem.W.mg_of X G z41, rfl, fun F => rep_loc.mpr rfl⟩, ⟨.ref CNV, _, PySem.W.mg_of X G z42, rfl, fun F => rep_loc.mpr rfl⟩, ⟨.ref CTG, _, PySem.W.mg_of X G z43, rfl, fun F => rep_loc.mpr rfl⟩, ⟨.ref CCo, _, PySem.W.mg_of X G z44, rfl, fun F => rep_loc.mpr rfl⟩, ⟨⟨_, _, _, _, PySem.F.excBase_ValueError, y45⟩, PySem.W.mg_of X G z45, v45, u45, s45⟩, z46, z47, z48, z49, z50, z51, z52, z53, ⟨hg54, hk54, hs54, hd54, ha54, hn54, ht54, hm54⟩, z55, PySem.W.mg_of X G z56, PySem.W.mg_none_of X G z57⟩
  have F1 := fun_mk (st := s__law_mixed) l1 c1 k1
  have b1 := F1.binds (ps := ["_law_cell", "_law_k"]) fun _ _ _ _ _ _ us hl => match us, hl with | [_, _], _ => rfl
  have F2 := fun_mk (st := s__law_folded) l2 c2 k2
  have b2 := F2.binds (ps := ["_law_script"]) fun _ _ _ _ _ _ us hl => match us, hl with | [_], _ => rfl
  have F3 := fun_mk (st := s__law_draw) l3 c3 k3
  have b3 := F3.binds (ps := ["_law_m", "_law_many_here"]) fun _ _ _ _ _ _ us hl => match us, hl with | [_, _], _ => rfl
  have F4 := fun_mk (st := s__law_begun) l4 c4 k4
  have b4 := F4.binds (ps := ["_law_script"]) fun _ _ _ _ _ _ us hl => match us, hl with | [_], _ => rfl
  have F5 := fun_mk (st := s_is_whole) l5 c5 k5
  have b5 := F5.binds (ps := ["thing"]) fun _ _ _ _ _ _ us hl => match us, hl with | [_], _ => rfl
  have F6 := fun_mk (st := s_common) l6 c6 k6
  have b6 := F6.binds (ps := ["one", "other"]) fun _ _ _ _ _ _ us hl => match us, hl with | [_, _], _ => rfl
  have F7 := fun_mk (st := s_is_fraction) l7 c7 k7
  have b7 := F7.binds (ps := ["thing"]) fun _ _ _ _ _ _ us hl => match us, hl with | [_], _ => rfl
  have F8 := fun_mk (st := s_is_name) l8 c8 k8
  have b8 := F8.binds (ps := ["thing"]) fun _ _ _ _ _ _ us hl => match us, hl with | [_], _ => rfl
  have F9 := fun_mk (st := s_are_names) l9 c9 k9
  have b9 := F9.binds (ps := ["thing", "most"]) fun _ _ _ _ _ _ us hl => match us, hl with | [_, _], _ => rfl
  have F10 := fun_mk (st := s_are_unlike) l10 c10 k10
  have b10 := F10.binds (ps := ["names"]) fun _ _ _ _ _ _ us hl => match us, hl with | [_], _ => rfl
  have F11 := fun_mk (st := s_is_among) l11 c11 k11
  have b11 := F11.binds (ps := ["thing", "least", "most"]) fun _ _ _ _ _ _ us hl => match us, hl with | [_, _, _], _ => rfl
  have F12 := fun_mk (st := s_is_thing) l12 c12 k12
  have b12 := F12.binds (ps := ["thing", "told"]) fun _ _ _ _ _ _ us hl => match us, hl with | [_, _], _ => rfl
  have F13 := fun_mk (st := s_is_call) l13 c13 k13
  have b13 := F13.binds (ps := ["things", "told", "parts"]) fun _ _ _ _ _ _ us hl => match us, hl with | [_, _, _], _ => rfl
  have F14 := fun_mk (st := s_is_doing) l14 c14 k14
  have b14 := F14.binds (ps := ["word", "things", "told", "parts"]) fun _ _ _ _ _ _ us hl => match us, hl with | [_, _, _, _], _ => rfl
  have F15 := fun_mk (st := s_Looked___init__) l15 c15 k15
  have b15 := F15.binds (ps := ["self"]) fun _ _ _ _ _ _ us hl => match us, hl with | [_], _ => rfl
  have F16 := fun_mk (st := s_Looked_is_more) l16 c16 k16
  have b16 := F16.binds (ps := ["self", "many"]) fun _ _ _ _ _ _ us hl => match us, hl with | [_, _], _ => rfl
  have F17 := fun_mk (st := s_Looked_is_item) l17 c17 k17
  have b17 := F17.binds (ps := ["self", "thing", "told", "deep"]) fun _ _ _ _ _ _ us hl => match us, hl with | [_, _, _, _], _ => rfl
  have F18 := fun_mk (st := s_Looked_is_body) l18 c18 k18
  have b18 := F18.binds (ps := ["self", "thing", "told", "deep"]) fun _ _ _ _ _ _ us hl => match us, hl with | [_, _, _, _], _ => rfl
  have F19 := fun_mk (st := s_Looked_is_part) l19 c19 k19
  have b19 := F19.binds (ps := ["self", "thing"]) fun _ _ _ _ _ _ us hl => match us, hl with | [_, _], _ => rfl
  have F20 := fun_mk (st := s_Looked_is_program) l20 c20 k20
  have b20 := F20.binds (ps := ["self", "thing"]) fun _ _ _ _ _ _ us hl => match us, hl with | [_, _], _ => rfl
  have F21 := fun_mk (st := s_Program___init__) l21 c21 k21
  have b21 := F21.binds (ps := ["self", "plain"]) fun _ _ _ _ _ _ us hl => match us, hl with | [_, _], _ => rfl
  have F22 := fun_mk (st := s_Program_plain) l22 c22 k22
  have b22 := F22.binds (ps := ["self"]) fun _ _ _ _ _ _ us hl => match us, hl with | [_], _ => rfl
  have F23 := fun_mk (st := s__law_names) l23 c23 k23
  have b23 := F23.binds (ps := ["_law_m", "_law_many_here"]) fun _ _ _ _ _ _ us hl => match us, hl with | [_, _], _ => rfl
  have F24 := fun_mk (st := s__law_common) l24 c24 k24
  have b24 := F24.binds (ps := ["_law_one", "_law_other"]) fun _ _ _ _ _ _ us hl => match us, hl with | [_, _], _ => rfl
  have F25 := fun_mk (st := s__law_lowest) l25 c25 k25
  have b25 := F25.binds (ps := ["_law_n", "_law_d"]) fun _ _ _ _ _ _ us hl => match us, hl with | [_, _], _ => rfl
  have F26 := fun_mk (st := s__law_fraction) l26 c26 k26
  have b26 := F26.binds (ps := ["_law_m"]) fun _ _ _ _ _ _ us hl => match us, hl with | [_], _ => rfl
  have F27 := fun_mk (st := s__law_thing) l27 c27 k27
  have b27 := F27.binds (ps := ["_law_m", "_law_told"]) fun _ _ _ _ _ _ us hl => match us, hl with | [_, _], _ => rfl
  have F28 := fun_mk (st := s__law_row) l28 c28 k28
  have b28 := F28.binds (ps := ["_law_m", "_law_told", "_law_parts"]) fun _ _ _ _ _ _ us hl => match us, hl with | [_, _, _], _ => rfl
  have F29 := fun_mk (st := s__law_body) l29 c29 k29
  have b29 := F29.binds (ps := ["_law_m", "_law_told", "_law_many_here", "_law_deep", "_law_parts"]) fun _ _ _ _ _ _ us hl => match us, hl with | [_, _, _, _, _], _ => rfl
  have F30 := fun_mk (st := s__law_program) l30 c30 k30
  have b30 := F30.binds (ps := ["_law_m", "_law_many_here"]) fun _ _ _ _ _ _ us hl => match us, hl with | [_, _], _ => rfl
  have F31 := fun_mk (st := s__law_whole) l31 c31 k31
  have b31 := F31.binds (ps := ["_law_thing_here", "_law_low", "_law_high"]) fun _ _ _ _ _ _ us hl => match us, hl with | [_, _, _], _ => rfl
  have F32 := fun_mk (st := s__law_is_name) l32 c32 k32
  have b32 := F32.binds (ps := ["_law_thing_here"]) fun _ _ _ _ _ _ us hl => match us, hl with | [_], _ => rfl
  have F33 := fun_mk (st := s__law_is_row) l33 c33 k33
  have b33 := F33.binds (ps := ["_law_thing_here", "_law_most"]) fun _ _ _ _ _ _ us hl => match us, hl with | [_, _], _ => rfl
  have F34 := fun_mk (st := s__law_is_thing) l34 c34 k34
  have b34 := F34.binds (ps := ["_law_thing_here", "_law_told"]) fun _ _ _ _ _ _ us hl => match us, hl with | [_, _], _ => rfl
  have F35 := fun_mk (st := s__law_is_doing) l35 c35 k35
  have b35 := F35.binds (ps := ["_law_word", "_law_things", "_law_told", "_law_counts"]) fun _ _ _ _ _ _ us hl => match us, hl with | [_, _, _, _], _ => rfl
  have F36 := fun_mk (st := s__law_body_told) l36 c36 k36
  have b36 := F36.binds (ps := ["_law_body_here", "_law_told", "_law_counts", "_law_deep"]) fun _ _ _ _ _ _ us hl => match us, hl with | [_, _, _, _], _ => rfl
  have F37 := fun_mk (st := s__law_is_part) l37 c37 k37
  have b37 := F37.binds (ps := ["_law_part", "_law_counts"]) fun _ _ _ _ _ _ us hl => match us, hl with | [_, _], _ => rfl
  have F38 := fun_mk (st := s__law_is_program) l38 c38 k38
  have b38 := F38.binds (ps := ["_law_thing_here"]) fun _ _ _ _ _ _ us hl => match us, hl with | [_], _ => rfl
  have F39 := fun_mk (st := s__law_many) l39 c39 k39
  have b39 := F39.binds (ps := ["_law_thing_here"]) fun _ _ _ _ _ _ us hl => match us, hl with | [_], _ => rfl
  have F40 := fun_mk (st := s__law_put) l40 c40 k40
  have b40 := F40.binds (ps := ["_law_m", "_law_thing_here", "_law_at"]) fun _ _ _ _ _ _ us hl => match us, hl with | [_, _, _], _ => rfl
  have F41 := fun_mk (st := s__law_odd) l41 c41 k41
  have b41 := F41.binds (ps := ["_law_m", "_law_thing_here"]) fun _ _ _ _ _ _ us hl => match us, hl with | [_, _], _ => rfl
  have F42 := fun_mk (st := s__law_refused) l42 c42 k42
  have b42 := F42.binds (ps := ["_law_thing_here"]) fun _ _ _ _ _ _ us hl => match us, hl with | [_], _ => rfl
  have F43 := fun_mk (st := s__law_ahead) l43 c43 k43
  have b43 := F43.binds (ps := ["_law_m", "_law_plain"]) fun _ _ _ _ _ _ us hl => match us, hl with | [_, _], _ => rfl
  have F44 := fun_mk (st := s_law) l44 c44 k44
  have b44 := F44.binds (ps := ["_law_script"]) fun _ _ _ _ _ _ us hl => match us, hl with | [_], _ => rfl
  refine ⟨PySem.W.fnOf "law" "law" (defArgs s_law) (defBody s_law) (defScope s_law) .none kV44 dc44 pm44 an44 cd44 ct44, fun s v => .of_eq rfl, fun base _ _ nd se hT => ?_⟩
  have far : Far l.prog base := ⟨nd, se, tr⟩
  have Q_C__law_mixed := ok__law_mixed (P := l.prog) (w := w) (base := base) (n := 0) T  F1
  have C__law_mixed : Cal l.prog w K mg base 1 "_law_mixed" (c__law_mixed) := ⟨_, _, _, Q_C__law_mixed, PySem.W.mg_of X G a1, k1, b1⟩
  have Q_C__law_folded := ok__law_folded (P := l.prog) (w := w) (base := base) (n := 0) T  F2
  have C__law_folded : Cal l.prog w K mg base 1 "_law_folded" (c__law_folded) := ⟨_, _, _, Q_C__law_folded, PySem.W.mg_of X G a2, k2, b2⟩
  have Q_C__law_draw := ok__law_draw (P := l.prog) (w := w) (base := base) (n := 1) T (C__law_mixed.up (by decide)) F3
  have C__law_draw : Cal l.prog w K mg base 2 "_law_draw" (c__law_draw) := ⟨_, _, _, Q_C__law_draw, PySem.W.mg_of X G a3, k3, b3⟩
  have Q_C__law_begun := ok__law_begun (P := l.prog) (w := w) (base := base) (n := 1) T (C__law_folded.up (by decide)) F4
  have C__law_begun : Cal l.prog w K mg base 2 "_law_begun" (c__law_begun) := ⟨_, _, _, Q_C__law_begun, PySem.W.mg_of X G a4, k4, b4⟩
  have Q_C_is_whole := ok_is_whole (P := l.prog) (w := w) (base := base) (n := 0) T  F5
  have C_is_whole : Cal l.prog w K mg base 1 "is_whole" (c_is_whole) := ⟨_, _, _, Q_C_is_whole, PySem.W.mg_of X G a5, k5, b5⟩
  have Q_C_common := ok_common (P := l.prog) (w := w) (base := base) (n := 0) T  F6
  have C_common : Cal l.prog w K mg base 1 "common" (c_common) := ⟨_, _, _, Q_C_common, PySem.W.mg_of X G a6, k6, b6⟩
  have Q_C_is_fraction := ok_is_fraction (P := l.prog) (w := w) (base := base) (n := 1) T (C_is_whole.up (by decide)) (C_common.up (by decide)) F7
  have C_is_fraction : Cal l.prog w K mg base 2 "is_fraction" (c_is_fraction) := ⟨_, _, _, Q_C_is_fraction, PySem.W.mg_of X G a7, k7, b7⟩
  have Q_C_is_name := ok_is_name (P := l.prog) (w := w) (base := base) (n := 0) T  F8
  have C_is_name : Cal l.prog w K mg base 1 "is_name" (c_is_name) := ⟨_, _, _, Q_C_is_name, PySem.W.mg_of X G a8, k8, b8⟩
  have Q_C_are_names := ok_are_names (P := l.prog) (w := w) (base := base) (n := 1) T (C_is_name.up (by decide)) F9
  have C_are_names : Cal l.prog w K mg base 2 "are_names" (c_are_names) := ⟨_, _, _, Q_C_are_names, PySem.W.mg_of X G a9, k9, b9⟩
  have Q_C_are_unlike := ok_are_unlike (P := l.prog) (w := w) (base := base) (n := 0) T  F10
  have C_are_unlike : Cal l.prog w K mg base 1 "are_unlike" (c_are_unlike) := ⟨_, _, _, Q_C_are_unlike, PySem.W.mg_of X G a10, k10, b10⟩
  have Q_C_is_among := ok_is_among (P := l.prog) (w := w) (base := base) (n := 1) T (C_is_whole.up (by decide)) F11
  have C_is_among : Cal l.prog w K mg base 2 "is_among" (c_is_among) := ⟨_, _, _, Q_C_is_among, PySem.W.mg_of X G a11, k11, b11⟩
  have Q_C_is_thing := ok_is_thing (P := l.prog) (w := w) (base := base) (n := 2) T (C_is_fraction.up (by decide)) F12
  have C_is_thing : Cal l.prog w K mg base 3 "is_thing" (c_is_thing) := ⟨_, _, _, Q_C_is_thing, PySem.W.mg_of X G a12, k12, b12⟩
  have Q_C_is_call := ok_is_call (P := l.prog) (w := w) (base := base) (n := 3) T (C_is_thing.up (by decide)) F13
  have C_is_call : Cal l.prog w K mg base 4 "is_call" (c_is_call) := ⟨_, _, _, Q_C_is_call, PySem.W.mg_of X G a13, k13, b13⟩
  have Q_C_is_doing := ok_is_doing (P := l.prog) (w := w) (base := base) (n := 4) T (C_is_call.up (by decide)) (C_is_thing.up (by decide)) (C_is_among.up (by decide)) F14
  have C_is_doing : Cal l.prog w K mg base 5 "is_doing" (c_is_doing) := ⟨_, _, _, Q_C_is_doing, PySem.W.mg_of X G a14, k14, b14⟩
  have Q_CK_Looked := ok_Looked___init__ (P := l.prog) (w := w) (base := base) (n := 0) T  F15
  have CK_Looked : CalK l.prog w K mg base 1 "Looked" CL ((c_Looked___init__ CL)) := ⟨_, _, _, Q_CK_Looked, ⟨mkCL, a15, i15, kcCL⟩, PySem.W.mg_of X G gCL, b15⟩
  have Q_CM_Looked_is_more := ok_Looked_is_more (P := l.prog) (w := w) (base := base) (n := 0) T  F16
  have CM_Looked_is_more : CalM l.prog w K mg base 1 CL "is_more" ((c_Looked_is_more CL)) := ⟨_, _, _, Q_CM_Looked_is_more, ⟨a16, i16, k16⟩, b16⟩
  have CM_body4 : CalM l.prog w K mg base 1 CL "is_body" (c_Looked_is_body CL 4) := ⟨_, _, _, (vac_looked F18), ⟨a18, i18, k18⟩, b18⟩
  have Q_CM_item3 := ok_Looked_is_item (P := l.prog) (w := w) (base := base) (n := 5) (lo := 3) T (C_is_among.up (by decide)) (C_is_name.up (by decide)) (C_is_doing.up (by decide)) (CM_Looked_is_more.up (by decide)) (CM_body4.up (by decide)) F17
  have CM_item3 : CalM l.prog w K mg base 6 CL "is_item" ((c_Looked_is_item CL 3)) := ⟨_, _, _, Q_CM_item3, ⟨a17, i17, k17⟩, b17⟩
  have Q_CM_body3 := ok_Looked_is_body (P := l.prog) (w := w) (base := base) (n := 6) (lo := 3) T (CM_item3.up (by decide)) F18
  have CM_body3 : CalM l.prog w K mg base 7 CL "is_body" ((c_Looked_is_body CL 3)) := ⟨_, _, _, Q_CM_body3, ⟨a18, i18, k18⟩, b18⟩
  have Q_CM_item2 := ok_Looked_is_item (P := l.prog) (w := w) (base := base) (n := 7) (lo := 2) T (C_is_among.up (by decide)) (C_is_name.up (by decide)) (C_is_doing.up (by decide)) (CM_Looked_is_more.up (by decide)) (CM_body3.up (by decide)) F17
  have CM_item2 : CalM l.prog w K mg base 8 CL "is_item" ((c_Looked_is_item CL 2)) := ⟨_, _, _, Q_CM_item2, ⟨a17, i17, k17⟩, b17⟩
  have Q_CM_body2 := ok_Looked_is_body (P := l.prog) (w := w) (base := base) (n := 8) (lo := 2) T (CM_item2.up (by decide)) F18
  have CM_body2 : CalM l.prog w K mg base 9 CL "is_body" ((c_Looked_is_body CL 2)) := ⟨_, _, _, Q_CM_body2, ⟨a18, i18, k18⟩, b18⟩
  have Q_CM_item1 := ok_Looked_is_item (P := l.prog) (w := w) (base := base) (n := 9) (lo := 1) T (C_is_among.up (by decide)) (C_is_name.up (by decide)) (C_is_doing.up (by decide)) (CM_Looked_is_more.up (by decide)) (CM_body2.up (by decide)) F17
  have CM_item1 : CalM l.prog w K mg base 10 CL "is_item" ((c_Looked_is_item CL 1)) := ⟨_, _, _, Q_CM_item1, ⟨a17, i17, k17⟩, b17⟩
  have Q_CM_body1 := ok_Looked_is_body (P := l.prog) (w := w) (base := base) (n := 10) (lo := 1) T (CM_item1.up (by decide)) F18
  have CM_body1 : CalM l.prog w K mg base 11 CL "is_body" ((c_Looked_is_body CL 1)) := ⟨_, _, _, Q_CM_body1, ⟨a18, i18, k18⟩, b18⟩
  have Q_CM_item0 := ok_Looked_is_item (P := l.prog) (w := w) (base := base) (n := 11) (lo := 0) T (C_is_among.up (by decide)) (C_is_name.up (by decide)) (C_is_doing.up (by decide)) (CM_Looked_is_more.up (by decide)) (CM_body1.up (by decide)) F17
  have CM_item0 : CalM l.prog w K mg base 12 CL "is_item" ((c_Looked_is_item CL 0)) := ⟨_, _, _, Q_CM_item0, ⟨a17, i17, k17⟩, b17⟩
  have Q_CM_Looked_is_body := ok_Looked_is_body (P := l.prog) (w := w) (base := base) (n := 12) (lo := 0) T (CM_item0.up (by decide)) F18
  have CM_Looked_is_body : CalM l.prog w K mg base 13 CL "is_body" ((c_Looked_is_body CL 0)) := ⟨_, _, _, Q_CM_Looked_is_body, ⟨a18, i18, k18⟩, b18⟩
  have Q_CM_Looked_is_part := ok_Looked_is_part (P := l.prog) (w := w) (base := base) (n := 13) T (C_is_name.up (by decide)) (C_are_names.up (by decide)) (C_are_unlike.up (by decide)) (CM_Looked_is_more.up (by decide)) (CM_Looked_is_body.up (by decide)) F19
  have CM_Looked_is_part : CalM l.prog w K mg base 14 CL "is_part" ((c_Looked_is_part CL)) := ⟨_, _, _, Q_CM_Looked_is_part, ⟨a19, i19, k19⟩, b19⟩
  have Q_CM_Looked_is_program := ok_Looked_is_program (P := l.prog) (w := w) (base := base) (n := 14) T (C_are_names.up (by decide)) (C_are_unlike.up (by decide)) (CM_Looked_is_part.up (by decide)) (CM_Looked_is_more.up (by decide)) (CM_Looked_is_body.up (by decide)) F20
  have CM_Looked_is_program : CalM l.prog w K mg base 15 CL "is_program" ((c_Looked_is_program CL)) := ⟨_, _, _, Q_CM_Looked_is_program, ⟨a20, i20, k20⟩, b20⟩
  have Q_CK_Program := ok_Program___init__ (P := l.prog) (w := w) (base := base) (n := 15) T (CK_Looked.up (by decide)) (CM_Looked_is_program.up (by decide)) F21
  have CK_Program : CalKX l.prog w K mg base 17 "Program" CP ((c_Program___init__ CP CPr)) := ⟨_, _, _, Q_CK_Program, ⟨mkCP, a21, i21, kcCP⟩, PySem.W.mg_of X G gCP, b21⟩
  have Q_CM_Program_plain := ok_Program_plain (P := l.prog) (w := w) (base := base) (n := 0) T  F22
  have CM_Program_plain : CalM l.prog w K mg base 1 CP "plain" ((c_Program_plain CP)) := ⟨_, _, _, Q_CM_Program_plain, ⟨a22, i22, k22⟩, b22⟩
  have Q_C__law_names := ok__law_names (P := l.prog) (w := w) (base := base) (n := 2) T (C__law_draw.up (by decide)) F23
  have C__law_names : Cal l.prog w K mg base 3 "_law_names" (c__law_names) := ⟨_, _, _, Q_C__law_names, PySem.W.mg_of X G a23, k23, b23⟩
  have Q_C__law_common := ok__law_common (P := l.prog) (w := w) (base := base) (n := 0) T  F24
  have C__law_common : Cal l.prog w K mg base 1 "_law_common" (c__law_common) := ⟨_, _, _, Q_C__law_common, PySem.W.mg_of X G a24, k24, b24⟩
  have Q_C__law_lowest := ok__law_lowest (P := l.prog) (w := w) (base := base) (n := 1) T (C__law_common.up (by decide)) F25
  have C__law_lowest : Cal l.prog w K mg base 2 "_law_lowest" (c__law_lowest) := ⟨_, _, _, Q_C__law_lowest, PySem.W.mg_of X G a25, k25, b25⟩
  have Q_C__law_fraction := ok__law_fraction (P := l.prog) (w := w) (base := base) (n := 2) T (C__law_draw.up (by decide)) (C__law_lowest.up (by decide)) F26
  have C__law_fraction : Cal l.prog w K mg base 3 "_law_fraction" (c__law_fraction) := ⟨_, _, _, Q_C__law_fraction, PySem.W.mg_of X G a26, k26, b26⟩
  have Q_C__law_thing := ok__law_thing (P := l.prog) (w := w) (base := base) (n := 3) T (C__law_draw.up (by decide)) (C__law_fraction.up (by decide)) F27
  have C__law_thing : Cal l.prog w K mg base 4 "_law_thing" (c__law_thing) := ⟨_, _, _, Q_C__law_thing, PySem.W.mg_of X G a27, k27, b27⟩
  have Q_C__law_row := ok__law_row (P := l.prog) (w := w) (base := base) (n := 4) T (C__law_draw.up (by decide)) (C__law_thing.up (by decide)) F28
  have C__law_row : Cal l.prog w K mg base 5 "_law_row" (c__law_row) := ⟨_, _, _, Q_C__law_row, PySem.W.mg_of X G a28, k28, b28⟩
  have C_body4 : Cal l.prog w K mg base 1 "_law_body" (c__law_body 4) := ⟨_, _, _, (vac_body F29), PySem.W.mg_of X G a29, k29, b29⟩
  have Q_C_body3 := ok__law_body (P := l.prog) (w := w) (base := base) (n := 5) (lo := 3) T (C__law_draw.up (by decide)) (C_body4.up (by decide)) (C__law_row.up (by decide)) F29
  have C_body3 : Cal l.prog w K mg base 6 "_law_body" ((c__law_body 3)) := ⟨_, _, _, Q_C_body3, PySem.W.mg_of X G a29, k29, b29⟩
  have Q_C_body2 := ok__law_body (P := l.prog) (w := w) (base := base) (n := 6) (lo := 2) T (C__law_draw.up (by decide)) (C_body3.up (by decide)) (C__law_row.up (by decide)) F29
  have C_body2 : Cal l.prog w K mg base 7 "_law_body" ((c__law_body 2)) := ⟨_, _, _, Q_C_body2, PySem.W.mg_of X G a29, k29, b29⟩
  have Q_C_body1 := ok__law_body (P := l.prog) (w := w) (base := base) (n := 7) (lo := 1) T (C__law_draw.up (by decide)) (C_body2.up (by decide)) (C__law_row.up (by decide)) F29
  have C_body1 : Cal l.prog w K mg base 8 "_law_body" ((c__law_body 1)) := ⟨_, _, _, Q_C_body1, PySem.W.mg_of X G a29, k29, b29⟩
  have Q_C__law_body := ok__law_body (P := l.prog) (w := w) (base := base) (n := 8) (lo := 0) T (C__law_draw.up (by decide)) (C_body1.up (by decide)) (C__law_row.up (by decide)) F29
  have C__law_body : Cal l.prog w K mg base 9 "_law_body" ((c__law_body 0)) := ⟨_, _, _, Q_C__law_body, PySem.W.mg_of X G a29, k29, b29⟩
  have Q_C__law_program := ok__law_program (P := l.prog) (w := w) (base := base) (n := 9) T (C__law_names.up (by decide)) (C__law_draw.up (by decide)) (C__law_body.up (by decide)) F30
  have C__law_program : Cal l.prog w K mg base 10 "_law_program" (c__law_program) := ⟨_, _, _, Q_C__law_program, PySem.W.mg_of X G a30, k30, b30⟩
  have Q_C__law_whole := ok__law_whole (P := l.prog) (w := w) (base := base) (n := 0) T  F31
  have C__law_whole : Cal l.prog w K mg base 1 "_law_whole" (c__law_whole) := ⟨_, _, _, Q_C__law_whole, PySem.W.mg_of X G a31, k31, b31⟩
  have Q_C__law_is_name := ok__law_is_name (P := l.prog) (w := w) (base := base) (n := 0) T  F32
  have C__law_is_name : Cal l.prog w K mg base 1 "_law_is_name" (c__law_is_name) := ⟨_, _, _, Q_C__law_is_name, PySem.W.mg_of X G a32, k32, b32⟩
  have Q_C__law_is_row := ok__law_is_row (P := l.prog) (w := w) (base := base) (n := 1) T (C__law_is_name.up (by decide)) F33
  have C__law_is_row : Cal l.prog w K mg base 2 "_law_is_row" (c__law_is_row) := ⟨_, _, _, Q_C__law_is_row, PySem.W.mg_of X G a33, k33, b33⟩
  have Q_C__law_is_thing := ok__law_is_thing (P := l.prog) (w := w) (base := base) (n := 1) T (C__law_whole.up (by decide)) (C__law_common.up (by decide)) F34
  have C__law_is_thing : Cal l.prog w K mg base 2 "_law_is_thing" (c__law_is_thing) := ⟨_, _, _, Q_C__law_is_thing, PySem.W.mg_of X G a34, k34, b34⟩
  have Q_C__law_is_doing := ok__law_is_doing (P := l.prog) (w := w) (base := base) (n := 2) T (C__law_is_thing.up (by decide)) (C__law_whole.up (by decide)) F35
  have C__law_is_doing : Cal l.prog w K mg base 3 "_law_is_doing" (c__law_is_doing) := ⟨_, _, _, Q_C__law_is_doing, PySem.W.mg_of X G a35, k35, b35⟩
  have C_told4 : Cal l.prog w K mg base 1 "_law_body_told" (c__law_body_told 4) := ⟨_, _, _, (vac_told F36), PySem.W.mg_of X G a36, k36, b36⟩
  have Q_C_told3 := ok__law_body_told (P := l.prog) (w := w) (base := base) (n := 3) (lo := 3) T (C__law_whole.up (by decide)) (C_told4.up (by decide)) (C__law_is_name.up (by decide)) (C__law_is_doing.up (by decide)) F36
  have C_told3 : Cal l.prog w K mg base 4 "_law_body_told" ((c__law_body_told 3)) := ⟨_, _, _, Q_C_told3, PySem.W.mg_of X G a36, k36, b36⟩
  have Q_C_told2 := ok__law_body_told (P := l.prog) (w := w) (base := base) (n := 4) (lo := 2) T (C__law_whole.up (by decide)) (C_told3.up (by decide)) (C__law_is_name.up (by decide)) (C__law_is_doing.up (by decide)) F36
  have C_told2 : Cal l.prog w K mg base 5 "_law_body_told" ((c__law_body_told 2)) := ⟨_, _, _, Q_C_told2, PySem.W.mg_of X G a36, k36, b36⟩
  have Q_C_told1 := ok__law_body_told (P := l.prog) (w := w) (base := base) (n := 5) (lo := 1) T (C__law_whole.up (by decide)) (C_told2.up (by decide)) (C__law_is_name.up (by decide)) (C__law_is_doing.up (by decide)) F36
  have C_told1 : Cal l.prog w K mg base 6 "_law_body_told" ((c__law_body_told 1)) := ⟨_, _, _, Q_C_told1, PySem.W.mg_of X G a36, k36, b36⟩
  have Q_C__law_body_told := ok__law_body_told (P := l.prog) (w := w) (base := base) (n := 6) (lo := 0) T (C__law_whole.up (by decide)) (C_told1.up (by decide)) (C__law_is_name.up (by decide)) (C__law_is_doing.up (by decide)) F36
  have C__law_body_told : Cal l.prog w K mg base 7 "_law_body_told" ((c__law_body_told 0)) := ⟨_, _, _, Q_C__law_body_told, PySem.W.mg_of X G a36, k36, b36⟩
  have Q_C__law_is_part := ok__law_is_part (P := l.prog) (w := w) (base := base) (n := 7) T (C__law_is_name.up (by decide)) (C__law_is_row.up (by decide)) (C__law_body_told.up (by decide)) F37
  have C__law_is_part : Cal l.prog w K mg base 8 "_law_is_part" (c__law_is_part) := ⟨_, _, _, Q_C__law_is_part, PySem.W.mg_of X G a37, k37, b37⟩
  have Q_C__law_is_program := ok__law_is_program (P := l.prog) (w := w) (base := base) (n := 8) T (C__law_is_part.up (by decide)) (C__law_is_row.up (by decide)) (C__law_body_told.up (by decide)) F38
  have C__law_is_program : Cal l.prog w K mg base 9 "_law_is_program" (c__law_is_program) := ⟨_, _, _, Q_C__law_is_program, PySem.W.mg_of X G a38, k38, b38⟩
  have C__law_many : Cal l.prog w K mg base 28 "_law_many" (c__law_many 27) := many_all (n := 1) (by decide) T F39 (PySem.W.mg_of X G a39) k39 b39 27
  have Q_C__law_odd := ok__law_odd (P := l.prog) (w := w) (base := base) (n := 2) T (C__law_draw.up (by decide)) F41
  have C__law_odd : Cal l.prog w K mg base 3 "_law_odd" (c__law_odd) := ⟨_, _, _, Q_C__law_odd, PySem.W.mg_of X G a41, k41, b41⟩
  have C__law_put : Cal l.prog w K mg base 57 "_law_put" (c__law_put 27) := put_all (n := 30) (by decide) T (C__law_odd.up (by decide)) F40 (PySem.W.mg_of X G a40) k40 b40 27
  have Q_C__law_refused := ok__law_refused (P := l.prog) (w := w) (base := base) (n := 17) T (CM_Program_plain.up (by decide)) (CK_Program.up (by decide)) F42
  have C__law_refused : Cal l.prog w K mg base 19 "_law_refused" ((c__law_refused CPr)) := ⟨_, _, _, Q_C__law_refused, PySem.W.mg_of X G a42, k42, b42⟩
  have Q_C__law_ahead := ok__law_ahead (P := l.prog) (w := w) (base := base) (n := 2) T (C__law_draw.up (by decide)) F43
  have C__law_ahead : Cal l.prog w K mg base 3 "_law_ahead" (c__law_ahead) := ⟨_, _, _, Q_C__law_ahead, PySem.W.mg_of X G a43, k43, b43⟩
  exact ok_law (n := 57) T (C__law_begun.up (by decide)) (C__law_program.up (by decide)) (C__law_refused.up (by decide)) (C__law_ahead.up (by decide)) (C__law_is_program.up (by decide)) (C__law_draw.up (by decide)) (C__law_put.up (by decide)) (C__law_many.up (by decide)) F44
end D
open PySem PySem.W PyProof.Rows
set_option maxHeartbeats 0 in
theorem PySem.Challenge.cw_slopehouse_k03_programs_refused_holds : PySem.Challenge.rw_slopehouse_k03_programs_refused.Holds := by
  refine D.pre.mk2 (fun w => PySem.W.byRow2 "special-get-raises" (P := D.pre.RP) D.headF D.headT w) ?_
  dsimp only [D.pre]
  refine D.walk_endS (l := PySem.Challenge.rw_slopehouse_k03_programs_refused) (k := 58) (x := "_law_script") (c := fun _ => D.c_law) [] (fun b => "") rfl rfl ⟨rfl, by decide, by decide⟩ ?hi9 (fun w h Y => PySem.W.kIn_of Y) (fun w h Y => ?tt9) (fun w => ?nn9) (fun w h Y => ?cc9) ?F (fun _ ns hl => ⟨ns, rfl, hl,  fun _ => rfl⟩)
  case hi9 => decide +kernel
  case tt9 => exact (fun _ h => nomatch h)
  case nn9 => exact (fun _ h => nomatch h)
  case F =>
    intro w mg fa h KX G hmg
    have hmg : mg ("law" : PySem.Str) = some (.ref fa) := by rw [← (show (HandSHeadRun.topDef (PySem.W.OpenLaw.row PySem.Challenge.rw_slopehouse_k03_programs_refused).prog 62).name = ("law" : PySem.Str) by kernel_rfl)]; exact hmg
    refine' D.all_mk KX G hmg rfl ?gCL ?pgCL ?hdCL ?poCL ?saCL ?mkCL ?kcCL ?gCP ?pgCP ?hdCP ?poCP ?saCP ?mkCP ?kcCP ?a1 ?l1 ?c1 ?k1 ?a2 ?l2 ?c2 ?k2 ?a3 ?l3 ?c3 ?k3 ?a4 ?l4 ?c4 ?k4 ?a5 ?l5 ?c5 ?k5 ?a6 ?l6 ?c6 ?k6 ?a7 ?l7 ?c7 ?k7 ?a8 ?l8 ?c8 ?k8 ?a9 ?l9 ?c9 ?k9 ?a10 ?l10 ?c10 ?k10 ?a11 ?l11 ?c11 ?k11 ?a12 ?l12 ?c12 ?k12 ?a13 ?l13 ?c13 ?k13 ?a14 ?l14 ?c14 ?k14 ?a15 ?i15 ?l15 ?c15 ?k15 ?a16 ?i16 ?l16 ?c16 ?k16 ?a17 ?i17 ?l17 ?c17 ?k17 ?a18 ?i18 ?l18 ?c18 ?k18 ?a19 ?i19 ?l19 ?c19 ?k19 ?a20 ?i20 ?l20 ?c20 ?k20 ?a21 ?i21 ?l21 ?c21 ?k21 ?a22 ?i22 ?l22 ?c22 ?k22 ?a23 ?l23 ?c23 ?k23 ?a24 ?l24 ?c24 ?k24 ?a25 ?l25 ?c25 ?k25 ?a26 ?l26 ?c26 ?k26 ?a27 ?l27 ?c27 ?k27 ?a28 ?l28 ?c28 ?k28 ?a29 ?l29 ?c29 ?k29 ?a30 ?l30 ?c30 ?k30 ?a31 ?l31 ?c31 ?k31 ?a32 ?l32 ?c32 ?k32 ?a33 ?l33 ?c33 ?k33 ?a34 ?l34 ?c34 ?k34 ?a35 ?l35 ?c35 ?k35 ?a36 ?l36 ?c36 ?k36 ?a37 ?l37 ?c37 ?k37 ?a38 ?l38 ?c38 ?k38 ?a39 ?l39 ?c39 ?k39 ?a40 ?l40 ?c40 ?k40 ?a41 ?l41 ?c41 ?k41 ?a42 ?l42 ?c42 ?k42 ?a43 ?l43 ?c43 ?k43 ?a44 ?l44 ?c44 ?k44 ?z0 ?z1 ?z2 ?z3 ?z4 ?z5 ?z6 ?z7 ?z8 ?z9 ?z10 ?z11 ?z12 ?z13 ?z14 ?z15 ?z16 ?z17 ?z18 ?e18 ?z19 ?w19 ?e19 ?z20 ?z21 ?z22 ?z23 ?z24 ?z25 ?z26 ?z27 ?z28 ?z29 ?z30 ?w30 ?e30 ?h30 ?z32 ?z33 ?z35 ?z36 ?z37 ?z38 ?z39 ?z40 ?z41 ?z42 ?z43 ?z44 ?z45 ?y45 ?v45 ?u45 ?s45 ?z46 ?z47 ?z48 ?z49 ?z50 ?z51 ?z52 ?z53 ?hg54 ?hk54 ?hs54 ?hd54 ?ha54 ?hn54 ?ht54 ?hm54 ?z55 ?z56 ?z57
    (case gCL => k_is)
    (case pgCL => k_is)
    (case hdCL => k_is)
    (case poCL => k_is)
    (case saCL => k_is)
    (case mkCL => k_is)
    (case kcCL => k_is)
    (case gCP => k_is)
    (case pgCP => k_is)
    (case hdCP => k_is)
    (case poCP => k_is)
    (case saCP => k_is)
    (case mkCP => k_is)
    (case kcCP => k_is)
    (case a1 => k_is)
    (case l1 => k_is)
    (case c1 => k_is)
    (case k1 => k_is)
    (case a2 => k_is)
    (case l2 => k_is)
    (case c2 => k_is)
    (case k2 => k_is)
    (case a3 => k_is)
    (case l3 => k_is)
    (case c3 => k_is)
    (case k3 => k_is)
    (case a4 => k_is)
    (case l4 => k_is)
    (case c4 => k_is)
    (case k4 => k_is)
    (case a5 => k_is)
    (case l5 => k_is)
    (case c5 => k_is)
    (case k5 => k_is)
    (case a6 => k_is)
    (case l6 => k_is)
    (case c6 => k_is)
    (case k6 => k_is)
    (case a7 => k_is)
    (case l7 => k_is)
    (case c7 => k_is)
    (case k7 => k_is)
    (case a8 => k_is)
    (case l8 => k_is)
    (case c8 => k_is)
    (case k8 => k_is)
    (case a9 => k_is)
    (case l9 => k_is)
    (case c9 => k_is)
    (case k9 => k_is)
    (case a10 => k_is)
    (case l10 => k_is)
    (case c10 => k_is)
    (case k10 => k_is)
    (case a11 => k_is)
    (case l11 => k_is)
    (case c11 => k_is)
    (case k11 => k_is)
    (case a12 => k_is)
    (case l12 => k_is)
    (case c12 => k_is)
    (case k12 => k_is)
    (case a13 => k_is)
    (case l13 => k_is)
    (case c13 => k_is)
    (case k13 => k_is)
    (case a14 => k_is)
    (case l14 => k_is)
    (case c14 => k_is)
    (case k14 => k_is)
    (case a15 => k_is)
    (case i15 => k_is)
    (case l15 => k_is)
    (case c15 => k_is)
    (case k15 => k_is)
    (case a16 => k_is)
    (case i16 => k_is)
    (case l16 => k_is)
    (case c16 => k_is)
    (case k16 => k_is)
    (case a17 => k_is)
    (case i17 => k_is)
    (case l17 => k_is)
    (case c17 => k_is)
    (case k17 => k_is)
    (case a18 => k_is)
    (case i18 => k_is)
    (case l18 => k_is)
    (case c18 => k_is)
    (case k18 => k_is)
    (case a19 => k_is)
    (case i19 => k_is)
    (case l19 => k_is)
    (case c19 => k_is)
    (case k19 => k_is)
    (case a20 => k_is)
    (case i20 => k_is)
    (case l20 => k_is)
    (case c20 => k_is)
    (case k20 => k_is)
    (case a21 => k_is)
    (case i21 => k_is)
    (case l21 => k_is)
    (case c21 => k_is)
    (case k21 => k_is)
    (case a22 => k_is)
    (case i22 => k_is)
    (case l22 => k_is)
    (case c22 => k_is)
    (case k22 => k_is)
    (case a23 => k_is)
    (case l23 => k_is)
    (case c23 => k_is)
    (case k23 => k_is)
    (case a24 => k_is)
    (case l24 => k_is)
    (case c24 => k_is)
    (case k24 => k_is)
    (case a25 => k_is)
    (case l25 => k_is)
    (case c25 => k_is)
    (case k25 => k_is)
    (case a26 => k_is)
    (case l26 => k_is)
    (case c26 => k_is)
    (case k26 => k_is)
    (case a27 => k_is)
    (case l27 => k_is)
    (case c27 => k_is)
    (case k27 => k_is)
    (case a28 => k_is)
    (case l28 => k_is)
    (case c28 => k_is)
    (case k28 => k_is)
    (case a29 => k_is)
    (case l29 => k_is)
    (case c29 => k_is)
    (case k29 => k_is)
    (case a30 => k_is)
    (case l30 => k_is)
    (case c30 => k_is)
    (case k30 => k_is)
    (case a31 => k_is)
    (case l31 => k_is)
    (case c31 => k_is)
    (case k31 => k_is)
    (case a32 => k_is)
    (case l32 => k_is)
    (case c32 => k_is)
    (case k32 => k_is)
    (case a33 => k_is)
    (case l33 => k_is)
    (case c33 => k_is)
    (case k33 => k_is)
    (case a34 => k_is)
    (case l34 => k_is)
    (case c34 => k_is)
    (case k34 => k_is)
    (case a35 => k_is)
    (case l35 => k_is)
    (case c35 => k_is)
    (case k35 => k_is)
    (case a36 => k_is)
    (case l36 => k_is)
    (case c36 => k_is)
    (case k36 => k_is)
    (case a37 => k_is)
    (case l37 => k_is)
    (case c37 => k_is)
    (case k37 => k_is)
    (case a38 => k_is)
    (case l38 => k_is)
    (case c38 => k_is)
    (case k38 => k_is)
    (case a39 => k_is)
    (case l39 => k_is)
    (case c39 => k_is)
    (case k39 => k_is)
    (case a40 => k_is)
    (case l40 => k_is)
    (case c40 => k_is)
    (case k40 => k_is)
    (case a41 => k_is)
    (case l41 => k_is)
    (case c41 => k_is)
    (case k41 => k_is)
    (case a42 => k_is)
    (case l42 => k_is)
    (case c42 => k_is)
    (case k42 => k_is)
    (case a43 => k_is)
    (case l43 => k_is)
    (case c43 => k_is)
    (case k43 => k_is)
    (case a44 => k_is)
    (case l44 => k_is)
    (case c44 => k_is)
    (case k44 => k_is)
    (case z0 => k_is)
    (case z1 => k_is)
    (case z2 => k_is)
    (case z3 => k_is)
    (case z4 => k_is)
    (case z5 => k_is)
    (case z6 => k_is)
    (case z7 => k_is)
    (case z8 => k_is)
    (case z9 => k_is)
    (case z10 => k_is)
    (case z11 => k_is)
    (case z12 => k_is)
    (case z13 => k_is)
    (case z14 => k_is)
    (case z15 => k_is)
    (case z16 => k_is)
    (case z17 => k_is)
    (case z18 => k_is)
    (case e18 => decide +kernel)
    (case z19 => k_is)
    (case w19 => k_is)
    (case e19 => decide +kernel)
    (case z20 => k_is)
    (case z21 => k_is)
    (case z22 => k_is)
    (case z23 => k_is)
    (case z24 => k_is)
    (case z25 => k_is)
    (case z26 => k_is)
    (case z27 => k_is)
    (case z28 => k_is)
    (case z29 => k_is)
    (case z30 => k_is)
    (case w30 => rfl)
    (case e30 => rfl)
    (case h30 => rfl)
    (case z32 => k_is)
    (case z33 => k_is)
    (case z35 => k_is)
    (case z36 => k_is)
    (case z37 => k_is)
    (case z38 => k_is)
    (case z39 => k_is)
    (case z40 => k_is)
    (case z41 => k_is)
    (case z42 => k_is)
    (case z43 => k_is)
    (case z44 => k_is)
    (case z45 => k_is)
    (case y45 => kernel_rfl)
    (case v45 => k_is)
    (case u45 => k_is)
    (case s45 => k_is)
    (case z46 => kernel_rfl)
    (case z47 => kernel_rfl)
    (case z48 => kernel_rfl)
    (case z49 => kernel_rfl)
    (case z50 => kernel_rfl)
    (case z51 => kernel_rfl)
    (case z52 => kernel_rfl)
    (case z53 => kernel_rfl)
    (case hg54 => k_is)
    (case hk54 => k_is)
    (case hs54 => k_is)
    (case hd54 => k_is)
    (case ha54 => k_is)
    (case hn54 => k_is)
    (case ht54 => k_is)
    (case hm54 => k_is)
    (case z55 => kernel_rfl)
    (case z56 => k_is)
    (case z57 => k_is)
  case cc9 => exact (fun _ h => nomatch h)

