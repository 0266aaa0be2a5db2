import PyProof.Rows.All
import Wide.All
import OpenK.AllK
import Wide.FinOn
import Open.SpecLaws
import KE.OsGo
import KE.GoesMore
import KE.GoesEnum
import HandS.ForMost
import HandS.ForSpec
import HandS.Deep
import HandS.TupAny
import HandS.Walk
import HandS.ExcInit
import HandS.ExcInitHot
import HandS.RaiseFrom
import HandS.SuiteRaise
import HandS.ExcField
import HandS.Style
import PySem.Challenge.RW_exceptranks_s01_answers
set_option Elab.async false
set_option linter.all false
set_option maxRecDepth 100000
set_option maxHeartbeats 4000000
/-! Models, and what the elimination of types finds: plain Lean. -/
namespace ExM
open Oc (C)

/-- a concept by the values of its atoms -/
def ev (v : C → Bool) : C → Bool
  | .top => true
  | .bot => false
  | .and c d => ev v c && ev v d
  | .or c d => ev v c || ev v d
  | .not c => !ev v c
  | .name a => v (.name a)
  | .some r c => v (.some r c)
  | .all r c => v (.all r c)
structure Mdl where
  dom : Type
  nm : Nat → dom → Prop
  rl : Nat → dom → dom → Prop
def Mdl.sat (M : Mdl) : C → M.dom → Prop
  | .top, _ => True
  | .bot, _ => False
  | .and c d, x => M.sat c x ∧ M.sat d x
  | .or c d, x => M.sat c x ∨ M.sat d x
  | .not c, x => ¬ M.sat c x
  | .name a, x => M.nm a x
  | .some r c, x => ∃ y, M.rl r x y ∧ M.sat c y
  | .all r c, x => ∀ y, M.rl r x y → M.sat c y
def Mdl.keeps (M : Mdl) (ax : List (C × C)) : Prop := ∀ a ∈ ax, ∀ x, M.sat a.1 x → M.sat a.2 x
/-- satisfiable with axioms -/
def Can (ax : List (C × C)) (c : C) : Prop := ∃ M : Mdl, M.keeps ax ∧ ∃ x, M.sat c x
/-- every atom of c is in A -/
def In (A : List C) (c : C) : Prop := ∀ b ∈ c.atoms, b ∈ A
/-- with each atom those inside of it -/
def Closed (A : List C) : Prop := (∀ r d, C.some r d ∈ A → In A d) ∧ (∀ r d, C.all r d ∈ A → In A d)

theorem In.and1 {A : List C} {c d : C} (h : In A (.and c d)) : In A c := fun b hb => h b (List.mem_append_left _ hb)
theorem In.and2 {A : List C} {c d : C} (h : In A (.and c d)) : In A d := fun b hb => h b (List.mem_append_right _ hb)
theorem In.or1 {A : List C} {c d : C} (h : In A (.or c d)) : In A c := fun b hb => h b (List.mem_append_left _ hb)
theorem In.or2 {A : List C} {c d : C} (h : In A (.or c d)) : In A d := fun b hb => h b (List.mem_append_right _ hb)
theorem In.not1 {A : List C} {c : C} (h : In A (.not c)) : In A c := fun b hb => h b hb
theorem In.name1 {A : List C} {a : Nat} (h : In A (.name a)) : C.name a ∈ A := h _ (List.mem_singleton.mpr rfl)
theorem In.some1 {A : List C} {r : Nat} {c : C} (h : In A (.some r c)) : C.some r c ∈ A := h _ List.mem_cons_self
theorem In.all1 {A : List C} {r : Nat} {c : C} (h : In A (.all r c)) : C.all r c ∈ A := h _ List.mem_cons_self
theorem In.some2 {A : List C} {r : Nat} {c : C} (h : In A (.some r c)) : In A c := fun b hb => h b (List.mem_cons_of_mem _ hb)
theorem In.all2 {A : List C} {r : Nat} {c : C} (h : In A (.all r c)) : In A c := fun b hb => h b (List.mem_cons_of_mem _ hb)
theorem In.and' {A : List C} {c d : C} (h1 : In A c) (h2 : In A d) : In A (.and c d) := fun b hb => (List.mem_append.mp hb).elim (h1 b) (h2 b)
theorem In.or' {A : List C} {c d : C} (h1 : In A c) (h2 : In A d) : In A (.or c d) := fun b hb => (List.mem_append.mp hb).elim (h1 b) (h2 b)
theorem In.top' {A : List C} : In A .top := fun _ hb => nomatch hb
theorem In.bot' {A : List C} : In A .bot := fun _ hb => nomatch hb

section
variable {T : Type} (A : List C) (val : T → C → Bool)
/-- u may be related to t by r -/
def Ft (r : Nat) (t u : T) : Prop := (∀ d, C.some r d ∈ A → val t (.some r d) = false → ev (val u) d = false) ∧ (∀ d, C.all r d ∈ A → val t (.all r d) = true → ev (val u) d = true)
/-- what t wants is found among S -/
def Bn (S : T → Prop) (t : T) : Prop := (∀ r d, C.some r d ∈ A → val t (.some r d) = true → ∃ u, S u ∧ Ft A val r t u ∧ ev (val u) d = true) ∧
  (∀ r d, C.all r d ∈ A → val t (.all r d) = false → ∃ u, S u ∧ Ft A val r t u ∧ ev (val u) d = false)
def Kp (ax : List (C × C)) (t : T) : Prop := ∀ a ∈ ax, ev (val t) a.1 = true → ev (val t) a.2 = true
structure Elim (ax : List (C × C)) (U : T → Prop) (L : List T) : Prop where
  ok : ∀ t ∈ L, Kp val ax t
  borne : ∀ t ∈ L, Bn A val (· ∈ L) t
  max : ∀ S : T → Prop, (∀ t, S t → U t) → (∀ t, S t → Kp val ax t) → (∀ t, S t → Bn A val S t) → ∀ t, S t → t ∈ L
  full : ∀ v : C → Bool, ∃ t, U t ∧ ∀ c ∈ A, val t c = v c
end
section
variable {T : Type} {A : List C} {val : T → C → Bool} {ax : List (C × C)} {U : T → Prop} {L : List T}
/-- the model of the types that are left -/
def mdl (A : List C) (val : T → C → Bool) (L : List T) : Mdl := ⟨{ t : T // t ∈ L }, fun a t => val t.1 (.name a) = true, fun r t u => Ft A val r t.1 u.1⟩
theorem mdl_sat (hA : Closed A) (hb : ∀ t ∈ L, Bn A val (· ∈ L) t) : ∀ (c : C), In A c → ∀ t : { t : T // t ∈ L }, (mdl A val L).sat c t ↔ ev (val t.1) c = true
  | .top, _, t => by simp [Mdl.sat, ev]
  | .bot, _, t => by simp [Mdl.sat, ev]
  | .and c d, h, t => by
    have h1 := mdl_sat hA hb c h.and1 t
    have h2 := mdl_sat hA hb d h.and2 t
    simp only [Mdl.sat, ev, Bool.and_eq_true, h1, h2]
  | .or c d, h, t => by
    have h1 := mdl_sat hA hb c h.or1 t
    have h2 := mdl_sat hA hb d h.or2 t
    simp only [Mdl.sat, ev, Bool.or_eq_true, h1, h2]
  | .not c, h, t => by
    have h1 := mdl_sat hA hb c h.not1 t
    simp only [Mdl.sat, ev, h1]
    cases ev (val t.1) c <;> simp
  | .name a, h, t => Iff.rfl
  | .some r c, h, t => by
    have hm := h.some1
    have ih := mdl_sat hA hb c (hA.1 r c hm)
    constructor
    · rintro ⟨u, hf, hs⟩
      have hu : ev (val u.1) c = true := (ih u).mp hs
      cases e : val t.1 (.some r c) with
      | true => exact e
      | false =>
        have q := hf.1 c hm e
        rw [hu] at q
        cases q
    · intro e
      obtain ⟨u, hu, hf, hs⟩ := (hb t.1 t.2).1 r c hm e
      exact ⟨⟨u, hu⟩, hf, (ih ⟨u, hu⟩).mpr hs⟩
  | .all r c, h, t => by
    have hm := h.all1
    have ih := mdl_sat hA hb c (hA.2 r c hm)
    constructor
    · intro hs
      cases e : val t.1 (.all r c) with
      | true => exact e
      | false =>
        obtain ⟨u, hu, hf, hn⟩ := (hb t.1 t.2).2 r c hm e
        have q := (ih ⟨u, hu⟩).mp (hs ⟨u, hu⟩ hf)
        have q' : ev (val u) c = true := q
        rw [hn] at q'
        cases q'
    · intro e u hf
      exact (ih u).mpr (hf.2 c hm e)
/-- t is the type of x -/
def Ty (A : List C) (val : T → C → Bool) (M : Mdl) (x : M.dom) (t : T) : Prop := ∀ c ∈ A, val t c = true ↔ M.sat c x
theorem ty_ev {M : Mdl} {x : M.dom} {t : T} (h : Ty A val M x t) : ∀ c, In A c → (ev (val t) c = true ↔ M.sat c x)
  | .top, _ => by simp [Mdl.sat, ev]
  | .bot, _ => by simp [Mdl.sat, ev]
  | .and c d, k => by
    have h1 := ty_ev h c k.and1
    have h2 := ty_ev h d k.and2
    simp only [Mdl.sat, ev, Bool.and_eq_true, h1, h2]
  | .or c d, k => by
    have h1 := ty_ev h c k.or1
    have h2 := ty_ev h d k.or2
    simp only [Mdl.sat, ev, Bool.or_eq_true, h1, h2]
  | .not c, k => by
    have h1 := ty_ev h c k.not1
    simp only [Mdl.sat, ev, ← h1]
    cases ev (val t) c <;> simp
  | .name a, k => h _ k.name1
  | .some r c, k => h _ k.some1
  | .all r c, k => h _ k.all1
theorem ty_evF {M : Mdl} {x : M.dom} {t : T} (h : Ty A val M x t) {c : C} (k : In A c) : ev (val t) c = false ↔ ¬ M.sat c x := by
  have q := ty_ev h c k
  rw [← q]
  cases ev (val t) c <;> simp
theorem Elim.can (E : Elim A val ax U L) (hA : Closed A) (hax : ∀ a ∈ ax, In A a.1 ∧ In A a.2) {c : C} (hc : In A c) : (∃ t ∈ L, ev (val t) c = true) ↔ Can ax c := by
  constructor
  · rintro ⟨t, ht, e⟩
    have truth := mdl_sat hA E.borne
    refine ⟨mdl A val L, fun a ha x hx => ?_, ⟨t, ht⟩, (truth c hc ⟨t, ht⟩).mpr e⟩
    exact (truth a.2 (hax a ha).2 x).mpr (E.ok x.1 x.2 a ha ((truth a.1 (hax a ha).1 x).mp hx))
  · rintro ⟨M, hM, x, hx⟩
    have ex : ∀ y : M.dom, ∃ t, U t ∧ Ty A val M y t := fun y => by
      classical
      obtain ⟨t, hu, h⟩ := E.full fun c => decide (M.sat c y)
      exact ⟨t, hu, fun c hc => by rw [h c hc, decide_eq_true_iff]⟩
    obtain ⟨t, hu, ht⟩ := ex x
    refine ⟨t, E.max (fun t => U t ∧ ∃ y, Ty A val M y t) (fun t h => h.1) ?_ ?_ t ⟨hu, x, ht⟩, (ty_ev ht c hc).mpr hx⟩
    · rintro t ⟨_, y, h⟩ a ha e
      exact (ty_ev h a.2 (hax a ha).2).mpr (hM a ha y ((ty_ev h a.1 (hax a ha).1).mp e))
    · rintro t ⟨_, y, h⟩
      have ft : ∀ {r : Nat} {z : M.dom} {u : T}, M.rl r y z → Ty A val M z u → Ft A val r t u := fun {r z u} hr hz =>
        ⟨fun d hd e => (ty_evF hz (hA.1 r d hd)).mpr fun q => Bool.false_ne_true (e.symm.trans ((h _ hd).mpr ⟨z, hr, q⟩)),
          fun d hd e => (ty_ev hz d (hA.2 r d hd)).mpr ((h _ hd).mp e z hr)⟩
      refine ⟨fun r d hd e => ?_, fun r d hd e => ?_⟩
      · obtain ⟨z, hr, hz⟩ := (h _ hd).mp e
        obtain ⟨u, hu, hty⟩ := ex z
        exact ⟨u, ⟨hu, z, hty⟩, ft hr hty, (ty_ev hty d (hA.1 r d hd)).mpr hz⟩
      · have q : ¬ M.sat (.all r d) y := fun q => by
          have w := (h _ hd).mpr q
          rw [e] at w
          cases w
        have q' : ∃ z, M.rl r y z ∧ ¬ M.sat d z := Classical.byContradiction fun k => q (show ∀ z, M.rl r y z → M.sat d z from fun z hr => Classical.byContradiction fun s => k ⟨z, hr, s⟩)
        obtain ⟨z, hr, hz⟩ := q'
        obtain ⟨u, hu, hty⟩ := ex z
        exact ⟨u, ⟨hu, z, hty⟩, ft hr hty, (ty_evF hty (hA.2 r d hd)).mpr hz⟩
end

/-! ### taking away until nothing changes -/
section
variable {T : Type}
def fixF (p : List T → T → Bool) : Nat → List T → List T
  | 0, l => l
  | n + 1, l => if (l.filter (p l)).length = l.length then l else fixF p n (l.filter (p l))
theorem filter_eq_of_len {q : T → Bool} : ∀ {l : List T}, (l.filter q).length = l.length → l.filter q = l
  | [], _ => rfl
  | a :: l, h => by
    cases e : q a with
    | true =>
      rw [List.filter_cons_of_pos e] at h ⊢
      rw [filter_eq_of_len (by simpa using h)]
    | false =>
      rw [List.filter_cons_of_neg (by simp [e])] at h
      have := List.length_filter_le q l
      simp only [List.length_cons] at h
      omega
theorem fixF_stop {p : List T → T → Bool} {n : Nat} {l : List T} (h : l.filter (p l) = l) : fixF p n l = l := by
  cases n with
  | zero => rfl
  | succ n =>
    show (if (l.filter (p l)).length = l.length then l else fixF p n (l.filter (p l))) = l
    rw [if_pos (by rw [h])]
theorem fixF_go {p : List T → T → Bool} {n : Nat} {l : List T} (h : l.filter (p l) ≠ l) : fixF p (n + 1) l = fixF p n (l.filter (p l)) := by
  show (if (l.filter (p l)).length = l.length then l else fixF p n (l.filter (p l))) = _
  rw [if_neg fun e => h (filter_eq_of_len e)]
theorem filter_lt {q : T → Bool} {l : List T} (h : l.filter q ≠ l) : (l.filter q).length < l.length := by
  have h1 := List.length_filter_le q l
  have h2 : (l.filter q).length ≠ l.length := fun e => h (filter_eq_of_len e)
  omega
/-- more fuel than items does no more -/
theorem fixF_fuel (p : List T → T → Bool) : ∀ (n m : Nat) (l : List T), l.length ≤ n → l.length ≤ m → fixF p n l = fixF p m l
  | 0, m, l, h, _ => by
    have e : l = [] := List.eq_nil_of_length_eq_zero (Nat.le_zero.mp h)
    subst e
    exact (fixF_stop (p := p) (n := m) rfl).symm
  | n + 1, 0, l, _, h => by
    have e : l = [] := List.eq_nil_of_length_eq_zero (Nat.le_zero.mp h)
    subst e
    exact fixF_stop (p := p) (n := n + 1) rfl
  | n + 1, m + 1, l, h1, h2 => by
    by_cases e : l.filter (p l) = l
    · rw [fixF_stop e, fixF_stop e]
    · rw [fixF_go e, fixF_go e]
      have k := filter_lt e
      exact fixF_fuel p n m _ (by omega) (by omega)
theorem fixF_fix (p : List T → T → Bool) : ∀ (n : Nat) (l : List T), l.length ≤ n → (fixF p n l).filter (p (fixF p n l)) = fixF p n l
  | 0, l, h => by
    have e : l = [] := List.eq_nil_of_length_eq_zero (Nat.le_zero.mp h)
    subst e
    rfl
  | n + 1, l, h => by
    by_cases e : l.filter (p l) = l
    · rw [fixF_stop e, e]
    · rw [fixF_go e]
      have k := filter_lt e
      exact fixF_fix p n _ (by omega)
theorem fixF_sub (p : List T → T → Bool) : ∀ (n : Nat) (l : List T) (t : T), t ∈ fixF p n l → t ∈ l
  | 0, _, _, h => h
  | n + 1, l, t, h => by
    by_cases e : l.filter (p l) = l
    · rw [fixF_stop e] at h
      exact h
    · rw [fixF_go e] at h
      exact (List.mem_filter.mp (fixF_sub p n _ t h)).1
theorem fixF_max (p : List T → T → Bool) (S U : T → Prop) (hS : ∀ l : List T, (∀ t ∈ l, U t) → (∀ t, S t → t ∈ l) → ∀ t, S t → p l t = true) : ∀ (n : Nat) (l : List T), (∀ t ∈ l, U t) → (∀ t, S t → t ∈ l) → ∀ t, S t → t ∈ fixF p n l
  | 0, _, _, h, t, ht => h t ht
  | n + 1, l, hu, h, t, ht => by
    by_cases e : l.filter (p l) = l
    · rw [fixF_stop e]
      exact h t ht
    · rw [fixF_go e]
      exact fixF_max p S U hS n _ (fun u q => hu u (List.mem_filter.mp q).1) (fun u q => List.mem_filter.mpr ⟨h u q, hS l hu h u q⟩) t ht
theorem Bn.mono {A : List C} {val : T → C → Bool} {S S' : T → Prop} {t : T} (h : Bn A val S t) (k : ∀ u, S u → S' u) : Bn A val S' t :=
  ⟨fun r d hd e => let ⟨u, a, b⟩ := h.1 r d hd e; ⟨u, k u a, b⟩, fun r d hd e => let ⟨u, a, b⟩ := h.2 r d hd e; ⟨u, k u a, b⟩⟩
/-- an elimination by fixF -/
theorem elim_of {A : List C} {val : T → C → Bool} {ax : List (C × C)} {U : T → Prop} {p : List T → T → Bool} {k : T → Bool} {n : Nat} {l : List T} (hl : ∀ t, t ∈ l ↔ U t) (hn : (l.filter k).length ≤ n) (hk : ∀ t, U t → (k t = true ↔ Kp val ax t))
    (hp : ∀ l' t, U t → (∀ u ∈ l', U u) → (p l' t = true ↔ Bn A val (· ∈ l') t)) (full : ∀ v : C → Bool, ∃ t, U t ∧ ∀ c ∈ A, val t c = v c) : Elim A val ax U (fixF p n (l.filter k)) where
  ok := fun t ht => by
    have q := List.mem_filter.mp (fixF_sub p n _ t ht)
    exact (hk t ((hl t).mp q.1)).mp q.2
  borne := fun t ht => by
    have hU : ∀ u ∈ fixF p n (l.filter k), U u := fun u hu => (hl u).mp (List.mem_filter.mp (fixF_sub p n _ u hu)).1
    refine (hp _ t (hU t ht) hU).mp ?_
    have e := fixF_fix p n _ hn
    rw [← e] at ht
    exact (List.mem_filter.mp ht).2
  max := fun S h1 h2 h3 t ht => by
    refine fixF_max p S U ?_ n _ (fun u hu => (hl u).mp (List.mem_filter.mp hu).1) ?_ t ht
    · intro l' hu hl' u hs
      exact (hp l' u (h1 u hs) hu).mpr ((h3 u hs).mono hl')
    · intro u hu
      exact List.mem_filter.mpr ⟨(hl u).mpr (h1 u hu), (hk u (h1 u hu)).mpr (h2 u hu)⟩
  full := full
end
end ExM
/-! The specification's own elimination finds what is satisfiable. -/
namespace ExM
open Oc (C)

theorem atoms_trans : ∀ (c : C) {b : C}, b ∈ c.atoms → ∀ a ∈ b.atoms, a ∈ c.atoms
  | .top, b, h => nomatch h
  | .bot, b, h => nomatch h
  | .name a, b, h => fun x hx => by
    obtain rfl : b = .name a := List.mem_singleton.mp h
    exact hx
  | .and c d, b, h => fun x hx => (List.mem_append.mp h).elim (fun q => List.mem_append_left _ (atoms_trans c q x hx)) fun q => List.mem_append_right _ (atoms_trans d q x hx)
  | .or c d, b, h => fun x hx => (List.mem_append.mp h).elim (fun q => List.mem_append_left _ (atoms_trans c q x hx)) fun q => List.mem_append_right _ (atoms_trans d q x hx)
  | .not c, b, h => fun x hx => atoms_trans c (b := b) h x hx
  | .some r c, b, h => fun x hx => (List.mem_cons.mp h).elim (fun q => by subst q; exact hx) fun q => List.mem_cons_of_mem _ (atoms_trans c q x hx)
  | .all r c, b, h => fun x hx => (List.mem_cons.mp h).elim (fun q => by subst q; exact hx) fun q => List.mem_cons_of_mem _ (atoms_trans c q x hx)
/-- a list that holds just the atoms of some concepts is closed -/
theorem closed_of {A l : List C} (h : ∀ c, c ∈ A ↔ c ∈ l.flatMap C.atoms) : Closed A := by
  have k : ∀ b ∈ A, ∀ a ∈ b.atoms, a ∈ A := fun b hb a ha => by
    obtain ⟨c, hc, q⟩ := List.mem_flatMap.mp ((h b).mp hb)
    exact (h a).mpr (List.mem_flatMap.mpr ⟨c, hc, atoms_trans c q a ha⟩)
  exact ⟨fun r d hd a ha => k _ hd a (List.mem_cons_of_mem _ ha), fun r d hd a ha => k _ hd a (List.mem_cons_of_mem _ ha)⟩
theorem in_of {A l : List C} (h : ∀ c, c ∈ A ↔ c ∈ l.flatMap C.atoms) {c : C} (hc : c ∈ l) : In A c := fun b hb => (h b).mpr (List.mem_flatMap.mpr ⟨c, hc, hb⟩)
def addOne (m : List C) (c : C) : List C := if m.contains c = true then m else m ++ [c]
theorem addOne_mem {m : List C} {c x : C} : x ∈ addOne m c ↔ x ∈ m ∨ x = c := by
  unfold addOne
  by_cases h : m.contains c = true
  · rw [if_pos h]
    have hc : c ∈ m := by simpa using h
    exact ⟨.inl, fun q => q.elim id fun e => by rw [e]; exact hc⟩
  · rw [if_neg h, List.mem_append, List.mem_singleton]
theorem addOne_nodup {m : List C} {c : C} (hm : m.Nodup) : (addOne m c).Nodup := by
  unfold addOne
  by_cases h : m.contains c = true
  · rw [if_pos h]
    exact hm
  · rw [if_neg h]
    have hc : c ∉ m := by simpa using h
    refine List.nodup_append.mpr ⟨hm, by simp, fun a ha b hb => ?_⟩
    obtain rfl : b = c := List.mem_singleton.mp hb
    exact fun e => hc (e ▸ ha)
theorem fold_mem : ∀ (l m : List C) (x : C), x ∈ l.foldl addOne m ↔ x ∈ m ∨ x ∈ l
  | [], m, x => by simp
  | c :: l, m, x => by
    rw [List.foldl_cons, fold_mem l, addOne_mem, List.mem_cons]
    constructor
    · rintro ((h | h) | h)
      · exact .inl h
      · exact .inr (.inl h)
      · exact .inr (.inr h)
    · rintro (h | h | h)
      · exact .inl (.inl h)
      · exact .inl (.inr h)
      · exact .inr h
theorem fold_nodup : ∀ (l m : List C), m.Nodup → (l.foldl addOne m).Nodup
  | [], _, h => h
  | _ :: l, _, h => fold_nodup l _ (addOne_nodup h)
theorem distinct_mem (l : List C) (x : C) : x ∈ Oc.distinct l ↔ x ∈ l := by
  have q := fold_mem l [] x
  simp only [List.not_mem_nil, false_or] at q
  exact q
theorem distinct_nodup (l : List C) : (Oc.distinct l).Nodup := fold_nodup l [] List.nodup_nil
theorem atomsOf_mem (l : List C) (c : C) : c ∈ Oc.atomsOf l ↔ c ∈ l.flatMap C.atoms := distinct_mem _ _
theorem nodup_sub_len : ∀ {a b : List C}, a.Nodup → (∀ c ∈ a, c ∈ b) → a.length ≤ b.length
  | [], b, _, _ => Nat.zero_le _
  | x :: a, b, h, k => by
    have hx : x ∈ b := k x List.mem_cons_self
    have h2 := List.nodup_cons.mp h
    have q := nodup_sub_len (a := a) (b := b.erase x) h2.2 fun c hc => (List.mem_erase_of_ne (fun e : c = x => h2.1 (e ▸ hc))).mpr (k c (List.mem_cons_of_mem _ hc))
    have l1 := List.length_erase_of_mem hx
    have l2 := List.length_pos_of_mem hx
    show a.length + 1 ≤ b.length
    omega
/-- two lists without repetition of the same members are as long -/
theorem same_len {a b : List C} (ha : a.Nodup) (hb : b.Nodup) (h : ∀ c, c ∈ a ↔ c ∈ b) : a.length = b.length :=
  Nat.le_antisymm (nodup_sub_len ha fun c hc => (h c).mp hc) (nodup_sub_len hb fun c hc => (h c).mpr hc)

/-! ### the specification's types -/
def valS (A : List C) (t : Nat) (c : C) : Bool := match A.idxOf? c with
  | some k => Oc.bit t k
  | none => false
theorem holds_ev (A : List C) (t : Nat) : ∀ c : C, Oc.holds A t c = ev (valS A t) c
  | .top => rfl
  | .bot => rfl
  | .and c d => by
    show (Oc.holds A t c && Oc.holds A t d) = (ev (valS A t) c && ev (valS A t) d)
    rw [holds_ev A t c, holds_ev A t d]
  | .or c d => by
    show (Oc.holds A t c || Oc.holds A t d) = (ev (valS A t) c || ev (valS A t) d)
    rw [holds_ev A t c, holds_ev A t d]
  | .not c => by
    show (!Oc.holds A t c) = !ev (valS A t) c
    rw [holds_ev A t c]
  | .name a => rfl
  | .some r c => rfl
  | .all r c => rfl
theorem all_forall {l : List C} {q : C → Bool} : l.all q = true ↔ ∀ c ∈ l, q c = true := List.all_eq_true
theorem fits_iff (A : List C) (r t u : Nat) : Oc.fits A r t u = true ↔ Ft A (valS A) r t u := by
  unfold Oc.fits
  rw [all_forall]
  constructor
  · intro h
    refine ⟨fun d hd e => ?_, fun d hd e => ?_⟩
    · have q := h _ hd
      simp only [holds_ev] at q
      have e' : ev (valS A t) (.some r d) = false := e
      rw [e'] at q
      simpa using q
    · have q := h _ hd
      simp only [holds_ev] at q
      have e' : ev (valS A t) (.all r d) = true := e
      rw [e'] at q
      simpa using q
  · intro h c hc
    cases c with
    | some s d =>
      simp only [holds_ev]
      by_cases hs : s = r
      · subst hs
        cases e : valS A t (.some s d) with
        | true =>
          have e' : ev (valS A t) (.some s d) = true := e
          simp [e']
        | false => simp [h.1 d hc e]
      · simp [hs]
    | all s d =>
      simp only [holds_ev]
      by_cases hs : s = r
      · subst hs
        cases e : valS A t (.all s d) with
        | false =>
          have e' : ev (valS A t) (.all s d) = false := e
          simp [e']
        | true => simp [h.2 d hc e]
      · simp [hs]
    | _ => rfl
theorem borne_iff (A : List C) (l : List Nat) (t : Nat) : Oc.borne A l t = true ↔ Bn A (valS A) (· ∈ l) t := by
  unfold Oc.borne
  rw [all_forall]
  constructor
  · intro h
    refine ⟨fun r d hd e => ?_, fun r d hd e => ?_⟩
    · have q := h _ hd
      simp only [holds_ev] at q
      have e' : ev (valS A t) (.some r d) = true := e
      rw [e'] at q
      simp only [Bool.not_true, Bool.false_or, List.any_eq_true, Bool.and_eq_true, fits_iff] at q
      exact q
    · have q := h _ hd
      simp only [holds_ev] at q
      have e' : ev (valS A t) (.all r d) = false := e
      rw [e'] at q
      simp only [Bool.false_or, List.any_eq_true, Bool.and_eq_true, fits_iff, Bool.not_eq_true'] at q
      exact q
  · intro h c hc
    cases c with
    | some s d =>
      simp only [holds_ev]
      cases e : valS A t (.some s d) with
      | false =>
        have e' : ev (valS A t) (.some s d) = false := e
        simp [e']
      | true =>
        obtain ⟨u, hu, hf, q⟩ := h.1 s d hc e
        have w : (l.any fun u => Oc.fits A s t u && ev (valS A u) d) = true := List.any_eq_true.mpr ⟨u, hu, by rw [(fits_iff A s t u).mpr hf, q] <;> rfl⟩
        rw [w, Bool.or_true]
    | all s d =>
      simp only [holds_ev]
      cases e : valS A t (.all s d) with
      | true =>
        have e' : ev (valS A t) (.all s d) = true := e
        simp [e']
      | false =>
        obtain ⟨u, hu, hf, q⟩ := h.2 s d hc e
        have w : (l.any fun u => Oc.fits A s t u && !ev (valS A u) d) = true := List.any_eq_true.mpr ⟨u, hu, by rw [(fits_iff A s t u).mpr hf, q] <;> rfl⟩
        rw [w, Bool.or_true]
    | _ => rfl
theorem keeps_iff (A : List C) (ax : List (C × C)) (t : Nat) : Oc.keeps A ax t = true ↔ Kp (valS A) ax t := by
  unfold Oc.keeps
  rw [List.all_eq_true]
  refine forall_congr' fun a => forall_congr' fun _ => ?_
  simp only [holds_ev]
  cases ev (valS A t) a.1 <;> simp
theorem settle_fixF (A : List C) : ∀ (n : Nat) (l : List Nat), Oc.settle A n l = fixF (Oc.borne A) n l
  | 0, _ => rfl
  | n + 1, l => by
    show (if (l.filter (Oc.borne A l)).length = l.length then l else Oc.settle A n (l.filter (Oc.borne A l))) = _
    rw [settle_fixF A n]
    rfl
theorem bits (f : Nat → Bool) : ∀ n : Nat, ∃ t, t < 2 ^ n ∧ ∀ k, k < n → Oc.bit t k = f k := by
  intro n
  induction n generalizing f with
  | zero => exact ⟨0, by decide, fun k hk => absurd hk (Nat.not_lt_zero _)⟩
  | succ n ih =>
    obtain ⟨t, ht, h⟩ := ih fun k => f (k + 1)
    refine ⟨2 * t + (if f 0 = true then 1 else 0), ?_, ?_⟩
    · rw [Nat.pow_succ]
      split <;> omega
    · intro k hk
      cases k with
      | zero =>
        unfold Oc.bit
        cases f 0 <;> simp <;> omega
      | succ k =>
        have q := h k (by omega)
        have e : (2 * t + (if f 0 = true then 1 else 0)) / 2 = t := by split <;> omega
        unfold Oc.bit at q ⊢
        rw [Nat.pow_succ, Nat.mul_comm (2 ^ k) 2, ← Nat.div_div_eq_div_mul, e]
        exact q
theorem full_S (A : List C) (v : C → Bool) : ∃ t, t < 2 ^ A.length ∧ ∀ c ∈ A, valS A t c = v c := by
  obtain ⟨t, ht, h⟩ := bits (fun k => match A[k]? with | some c => v c | none => false) A.length
  refine ⟨t, ht, fun c hc => ?_⟩
  unfold valS
  cases e : A.idxOf? c with
  | none => exact absurd hc (List.idxOf?_eq_none_iff.mp e)
  | some k =>
    obtain ⟨hk, q, _⟩ := List.idxOf?_eq_some_iff.mp e
    have q' : A[k] = c := by simpa using q
    show Oc.bit t k = v c
    rw [h k hk]
    have g : A[k]? = some c := by rw [List.getElem?_eq_getElem hk, q']
    rw [g]
theorem elim_S (A : List C) (ax : List (C × C)) : Elim A (valS A) ax (fun t => t < 2 ^ A.length) (Oc.types A ax) := by
  unfold Oc.types
  rw [settle_fixF]
  refine elim_of (fun t => List.mem_range) ?_ (fun t _ => keeps_iff A ax t) (fun l t _ _ => borne_iff A l t) fun v => full_S A v
  have q := List.length_filter_le (Oc.keeps A ax) (List.range (2 ^ A.length))
  rw [List.length_range] at q
  omega
theorem can_iff (ax : List (C × C)) (c : C) : Oc.can ax c = true ↔ Can ax c := by
  have hm : ∀ x, x ∈ Oc.atomsFor ax [c] ↔ x ∈ ((ax.flatMap fun a => [a.1, a.2]) ++ [c]).flatMap C.atoms := fun x => atomsOf_mem _ x
  have hax : ∀ a ∈ ax, In (Oc.atomsFor ax [c]) a.1 ∧ In (Oc.atomsFor ax [c]) a.2 := fun a ha =>
    ⟨in_of hm (List.mem_append_left _ (List.mem_flatMap.mpr ⟨a, ha, by simp⟩)), in_of hm (List.mem_append_left _ (List.mem_flatMap.mpr ⟨a, ha, by simp⟩))⟩
  have q := (elim_S (Oc.atomsFor ax [c]) ax).can (closed_of hm) hax (c := c) (in_of hm (List.mem_append_right _ (List.mem_singleton.mpr rfl)))
  rw [← q]
  unfold Oc.can
  simp only [List.any_eq_true, holds_ev]
theorem under_iff (ax : List (C × C)) (c d : C) : Oc.under ax c d = true ↔ ¬ Can ax (.and c (.not d)) := by
  unfold Oc.under
  rw [← can_iff]
  cases Oc.can ax (.and c (.not d)) <;> simp
end ExM
/-! The program's kinds of elements: tuples of truth values, and that their elimination answers as the specification's does. -/
namespace ExM
open Oc (C)

abbrev Kd := List Bool
def valP (own : List C) (k : Kd) (c : C) : Bool := k.getD (own.idxOf c) false
def has (own : List C) (k : Kd) (c : C) : Bool := ev (valP own k) c
def sats (own : List C) (k : Kd) (pairs : List (C × C)) : Bool := pairs.all fun p => !has own k p.1 || has own k p.2
def grow (f : List Kd) : List Kd := f.map (fun k => k ++ [false]) ++ f.map (fun k => k ++ [true])
def every (own : List C) : List Kd := own.foldl (fun f _ => grow f) [[]]
/-- whether an atom that a kind has, or has not, lets it be related to o -/
def rel1 (own : List C) (role : Nat) (o : Kd) (x : C × Bool) : Bool := match x.1 with
  | .some r d => !(r == role && x.2 == false) || has own o d == x.2
  | .all r d => !(r == role && x.2 == true) || has own o d == x.2
  | _ => true
def mayRel (own : List C) (k : Kd) (role : Nat) (o : Kd) : Bool := (own.zip k).all (rel1 own role o)
def shown (own : List C) (k : Kd) (others : List Kd) (x : C × Bool) : Bool := match x.1 with
  | .some r d => !x.2 || others.any fun o => has own o d == x.2 && mayRel own k r o
  | .all r d => x.2 || others.any fun o => has own o d == x.2 && mayRel own k r o
  | _ => true
def poss (own : List C) (others : List Kd) (k : Kd) : Bool := (own.zip k).all (shown own k others)
def kinds0 (own : List C) (ax : List (C × C)) : List Kd := (every own).filter fun k => sats own k ax
def kinds (own : List C) (ax : List (C × C)) : List Kd := fixF (poss own) (kinds0 own ax).length (kinds0 own ax)
def someHave (own : List C) (ks : List Kd) (c : C) (rules : List (C × C)) : List Kd := ks.filter fun k => has own k c && sats own k rules

theorem fold_grow : ∀ (l : List C) (f : List Kd) (n : Nat), (∀ k, k ∈ f ↔ k.length = n) → ∀ k, k ∈ l.foldl (fun f _ => grow f) f ↔ k.length = n + l.length
  | [], _, _, h, k => h k
  | _ :: l, f, n, h, k => by
    have step : ∀ k, k ∈ grow f ↔ k.length = n + 1 := fun k => by
      unfold grow
      simp only [List.mem_append, List.mem_map]
      constructor
      · rintro (⟨j, hj, e⟩ | ⟨j, hj, e⟩)
        · rw [← e, List.length_append, (h j).mp hj]; rfl
        · rw [← e, List.length_append, (h j).mp hj]; rfl
      · intro e
        have hne : k ≠ [] := fun z => by rw [z] at e; cases e
        have hd := List.dropLast_concat_getLast hne
        have hl : k.dropLast ∈ f := (h _).mpr (by rw [List.length_dropLast, e]; rfl)
        cases hb : k.getLast hne with
        | false => exact .inl ⟨_, hl, by rw [← hb]; exact hd⟩
        | true => exact .inr ⟨_, hl, by rw [← hb]; exact hd⟩
    have q := fold_grow l (grow f) (n + 1) step k
    rw [List.foldl_cons, q, List.length_cons]
    omega
theorem every_mem (own : List C) (k : Kd) : k ∈ every own ↔ k.length = own.length := by
  have q := fold_grow own [[]] 0 (fun k => by simp [List.length_eq_zero_iff]) k
  rw [Nat.zero_add] at q
  exact q

section
variable {own : List C} (nd : own.Nodup)
include nd
theorem valP_at {k : Kd} {i : Nat} {c : C} {b : Bool} (h1 : own[i]? = some c) (h2 : k[i]? = some b) : valP own k c = b := by
  obtain ⟨hi, e⟩ := List.getElem?_eq_some_iff.mp h1
  have q : own.idxOf c = i := by rw [← e]; exact nd.idxOf_getElem i hi
  unfold valP
  rw [q, List.getD_eq_getElem?_getD, h2]
  rfl
theorem zip_mem {k : Kd} (hk : k.length = own.length) {c : C} {b : Bool} : (c, b) ∈ own.zip k ↔ c ∈ own ∧ valP own k c = b := by
  constructor
  · intro h
    obtain ⟨i, hi, e⟩ := List.mem_iff_getElem.mp h
    rw [List.getElem_zip] at e
    rw [List.length_zip] at hi
    have e1 : own[i]'(by omega) = c := congrArg Prod.fst e
    have e2 : k[i]'(by omega) = b := congrArg Prod.snd e
    refine ⟨e1 ▸ List.getElem_mem _, valP_at nd (i := i) ?_ ?_⟩
    · rw [List.getElem?_eq_getElem (by omega), e1]
    · rw [List.getElem?_eq_getElem (by omega), e2]
  · rintro ⟨hc, e⟩
    obtain ⟨i, hi, e1⟩ := List.mem_iff_getElem.mp hc
    have hik : i < k.length := by omega
    have q := valP_at nd (k := k) (i := i) (c := c) (b := k[i]) (by rw [List.getElem?_eq_getElem hi, e1]) (List.getElem?_eq_getElem hik)
    rw [q] at e
    refine List.mem_iff_getElem.mpr ⟨i, by rw [List.length_zip]; omega, ?_⟩
    rw [List.getElem_zip, e1, e]
theorem zip_all {k : Kd} (hk : k.length = own.length) {q : C × Bool → Bool} : (own.zip k).all q = true ↔ ∀ c ∈ own, q (c, valP own k c) = true := by
  rw [List.all_eq_true]
  constructor
  · intro h c hc
    exact h _ ((zip_mem nd hk).mpr ⟨hc, rfl⟩)
  · rintro h ⟨c, b⟩ hx
    obtain ⟨hc, e⟩ := (zip_mem nd hk).mp hx
    rw [← e]
    exact h c hc
theorem mayRel_iff {k : Kd} (hk : k.length = own.length) (r : Nat) (o : Kd) : mayRel own k r o = true ↔ Ft own (valP own) r k o := by
  unfold mayRel
  rw [zip_all nd hk]
  constructor
  · intro h
    refine ⟨fun d hd e => ?_, fun d hd e => ?_⟩
    · have q := h _ hd
      simp only [rel1, e, has] at q
      simpa using q
    · have q := h _ hd
      simp only [rel1, e, has] at q
      simpa using q
  · intro h c hc
    cases c with
    | some s d =>
      simp only [rel1, has]
      by_cases hs : s = r
      · subst hs
        cases e : valP own k (.some s d) with
        | true => simp
        | false => simp [h.1 d hc e]
      · simp [hs]
    | all s d =>
      simp only [rel1, has]
      by_cases hs : s = r
      · subst hs
        cases e : valP own k (.all s d) with
        | false => simp
        | true => simp [h.2 d hc e]
      · simp [hs]
    | _ => rfl
theorem poss_iff {k : Kd} (hk : k.length = own.length) (l : List Kd) : poss own l k = true ↔ Bn own (valP own) (· ∈ l) k := by
  unfold poss
  rw [zip_all nd hk]
  constructor
  · intro h
    refine ⟨fun r d hd e => ?_, fun r d hd e => ?_⟩
    · have q := h _ hd
      simp only [shown, e, has, Bool.not_true, Bool.false_or, List.any_eq_true, Bool.and_eq_true, mayRel_iff nd hk, beq_iff_eq] at q
      obtain ⟨u, hu, a, b⟩ := q
      exact ⟨u, hu, b, a⟩
    · have q := h _ hd
      simp only [shown, e, has, Bool.false_or, List.any_eq_true, Bool.and_eq_true, mayRel_iff nd hk, beq_iff_eq] at q
      obtain ⟨u, hu, a, b⟩ := q
      exact ⟨u, hu, b, a⟩
  · intro h c hc
    cases c with
    | some r d =>
      simp only [shown, has]
      cases e : valP own k (.some r d) with
      | false => rfl
      | true =>
        obtain ⟨u, hu, hf, q⟩ := h.1 r d hc e
        rw [Bool.not_true, Bool.false_or, List.any_eq_true]
        exact ⟨u, hu, by rw [q, (mayRel_iff nd hk r u).mpr hf]; rfl⟩
    | all r d =>
      simp only [shown, has]
      cases e : valP own k (.all r d) with
      | true => rfl
      | false =>
        obtain ⟨u, hu, hf, q⟩ := h.2 r d hc e
        rw [Bool.false_or, List.any_eq_true]
        exact ⟨u, hu, by rw [q, (mayRel_iff nd hk r u).mpr hf]; rfl⟩
    | _ => rfl
omit nd in
theorem sats_iff (k : Kd) (ax : List (C × C)) : sats own k ax = true ↔ Kp (valP own) ax k := by
  unfold sats
  rw [List.all_eq_true]
  refine forall_congr' fun a => forall_congr' fun _ => ?_
  unfold has
  cases ev (valP own k) a.1 <;> simp
theorem full_P (v : C → Bool) : ∃ k : Kd, k.length = own.length ∧ ∀ c ∈ own, valP own k c = v c := by
  refine ⟨own.map v, List.length_map _, fun c hc => ?_⟩
  obtain ⟨i, hi, e⟩ := List.mem_iff_getElem.mp hc
  exact valP_at nd (i := i) (by rw [List.getElem?_eq_getElem hi, e]) (by rw [List.getElem?_map, List.getElem?_eq_getElem hi, e]; rfl)
theorem elim_P (ax : List (C × C)) : Elim own (valP own) ax (fun k => k.length = own.length) (kinds own ax) :=
  elim_of (every_mem own) (Nat.le_refl _) (fun k _ => sats_iff k ax) (fun l _ hk _ => poss_iff nd hk l) (full_P nd)
end
/-- what the list of atoms of a ranking knows -/
structure Good (own : List C) : Prop where
  nd : own.Nodup
  cl : Closed own
def InP (own : List C) (l : List (C × C)) : Prop := ∀ a ∈ l, In own a.1 ∧ In own a.2
theorem InP.sub {own : List C} {l l' : List (C × C)} (h : InP own l) (k : ∀ a ∈ l', a ∈ l) : InP own l' := fun a ha => h a (k a ha)
theorem kinds_can {own : List C} (g : Good own) {ax : List (C × C)} (hax : InP own ax) {c : C} (hc : In own c) : (∃ k ∈ kinds own ax, has own k c = true) ↔ Can ax c := (elim_P g.nd ax).can g.cl hax hc
theorem ev_all (v : C → Bool) : ∀ l : List (C × C), ev v (Oc07.all_ l) = l.all fun p => !ev v p.1 || ev v p.2
  | [] => rfl
  | p :: l => by
    show ((!ev v p.1 || ev v p.2) && ev v (Oc07.all_ l)) = _
    rw [ev_all v l, List.all_cons]
theorem in_all {own : List C} : ∀ {l : List (C × C)}, InP own l → In own (Oc07.all_ l)
  | [], _ => In.top'
  | p :: l, h => ((show In own (.or (.not p.1) p.2) from In.or' (h p List.mem_cons_self).1 (h p List.mem_cons_self).2)).and' (in_all (l := l) (h.sub fun a ha => List.mem_cons_of_mem _ ha))
theorem exc_eq {own : List C} (g : Good own) {ax rules : List (C × C)} (hax : InP own ax) (hr : InP own rules) {c : C} (hc : In own c) : decide (someHave own (kinds own ax) c rules = []) = Oc07.strange ax rules c := by
  have hI : In own (.and c (Oc07.all_ rules)) := In.and' hc (in_all hr)
  have q := kinds_can g hax hI
  have e1 : (∃ k ∈ kinds own ax, has own k (.and c (Oc07.all_ rules)) = true) ↔ someHave own (kinds own ax) c rules ≠ [] := by
    unfold someHave
    rw [ne_eq, List.filter_eq_nil_iff]
    simp only [has, ev, ev_all, sats, Classical.not_forall, Classical.not_not]
    constructor
    · rintro ⟨k, hk, h⟩; exact ⟨k, hk, h⟩
    · rintro ⟨k, hk, h⟩; exact ⟨k, hk, h⟩
  have e2 : Can ax (.and (.and c (Oc07.all_ rules)) (.not .bot)) ↔ Can ax (.and c (Oc07.all_ rules)) :=
    ⟨fun ⟨M, h, x, hx⟩ => ⟨M, h, x, hx.1⟩, fun ⟨M, h, x, hx⟩ => ⟨M, h, x, hx, fun z => z⟩⟩
  have e3 := under_iff ax (.and c (Oc07.all_ rules)) .bot
  rw [e2, ← q, e1] at e3
  unfold Oc07.strange
  by_cases h : someHave own (kinds own ax) c rules = []
  · rw [decide_eq_true h, e3.mpr fun k => k h]
  · rw [decide_eq_false h]
    cases w : Oc.under ax (.and c (Oc07.all_ rules)) .bot with
    | false => rfl
    | true => exact absurd (e3.mp w) (fun k => k h)
theorem follow_eq {own : List C} (g : Good own) {ax rules : List (C × C)} (hax : InP own ax) (hr : InP own rules) {c d : C} (hc : In own c) (hd : In own d) :
    ((someHave own (kinds own ax) c rules).all fun k => has own k d) = Oc.under ax (.and c (Oc07.all_ rules)) d := by
  have hI : In own (.and (.and c (Oc07.all_ rules)) (.not d)) := In.and' (In.and' hc (in_all hr)) hd
  have q := kinds_can g hax hI
  have e3 := under_iff ax (.and c (Oc07.all_ rules)) d
  rw [← q] at e3
  have e1 : ((someHave own (kinds own ax) c rules).all fun k => has own k d) = true ↔ ¬ ∃ k ∈ kinds own ax, has own k (.and (.and c (Oc07.all_ rules)) (.not d)) = true := by
    unfold someHave
    rw [List.all_eq_true]
    simp only [List.mem_filter, has, ev, ev_all, sats, Bool.and_eq_true, Bool.not_eq_true']
    constructor
    · rintro h ⟨k, hk, h1, h2⟩
      have z := h k ⟨hk, h1⟩
      rw [h2] at z
      cases z
    · rintro h k ⟨hk, h1⟩
      cases e : ev (valP own k) d with
      | true => rfl
      | false => exact absurd ⟨k, hk, h1, e⟩ h
  rw [← e1] at e3
  cases w : Oc.under ax (.and c (Oc07.all_ rules)) d with
  | true => exact e3.mp w
  | false =>
    cases w2 : ((someHave own (kinds own ax) c rules).all fun k => has own k d) with
    | false => rfl
    | true =>
      rw [e3.mpr w2] at w
      cases w
theorem under_top (ax : List (C × C)) (c d : C) : Oc.under ax (.and c (Oc07.all_ [])) d = Oc.under ax c d := by
  have h : Can ax (.and (.and c (Oc07.all_ [])) (.not d)) ↔ Can ax (.and c (.not d)) :=
    ⟨fun ⟨M, h, x, hx⟩ => ⟨M, h, x, hx.1.1, hx.2⟩, fun ⟨M, h, x, hx⟩ => ⟨M, h, x, ⟨hx.1, True.intro⟩, hx.2⟩⟩
  have e1 := under_iff ax (.and c (Oc07.all_ [])) d
  have e2 := under_iff ax c d
  rw [h, ← e2] at e1
  cases w : Oc.under ax c d with
  | true => exact e1.mpr w
  | false =>
    cases w2 : Oc.under ax (.and c (Oc07.all_ [])) d with
    | false => rfl
    | true =>
      rw [e1.mp w2] at w
      cases w
end ExM
/-! Ranks. -/
namespace ExM
open Oc (C)
open Oc07 (left ranks ranked strange book rankOf Rule)

theorem left_sub (ax : List (C × C)) (l : List Rule) : ∀ a ∈ left ax l, a ∈ l := fun _ h => (List.mem_filter.mp h).1
theorem left_eq {ax : List (C × C)} {l : List Rule} (h : (left ax l).length = l.length) : left ax l = l := filter_eq_of_len h
theorem ranks_stop {ax : List (C × C)} {n : Nat} {l : List Rule} (h : left ax l = l) : ranks ax n l = [l] := by
  cases n with
  | zero => rfl
  | succ n =>
    show (if (left ax l).length = l.length then [l] else l :: ranks ax n (left ax l)) = [l]
    rw [if_pos (by rw [h])]
theorem ranks_go {ax : List (C × C)} {n : Nat} {l : List Rule} (h : left ax l ≠ l) : ranks ax (n + 1) l = l :: ranks ax n (left ax l) := by
  show (if (left ax l).length = l.length then [l] else l :: ranks ax n (left ax l)) = _
  rw [if_neg fun e => h (left_eq e)]
theorem left_lt {ax : List (C × C)} {l : List Rule} (h : left ax l ≠ l) : (left ax l).length < l.length := filter_lt h
theorem ranks_fuel (ax : List (C × C)) : ∀ (n m : Nat) (l : List Rule), l.length ≤ n → l.length ≤ m → ranks ax n l = ranks ax m l
  | 0, m, l, h, _ => by
    have e : l = [] := List.eq_nil_of_length_eq_zero (Nat.le_zero.mp h)
    subst e
    exact (ranks_stop (n := m) rfl).symm
  | n + 1, 0, l, _, h => by
    have e : l = [] := List.eq_nil_of_length_eq_zero (Nat.le_zero.mp h)
    subst e
    exact ranks_stop (n := n + 1) rfl
  | n + 1, m + 1, l, h1, h2 => by
    by_cases e : left ax l = l
    · rw [ranks_stop e, ranks_stop e]
    · rw [ranks_go e, ranks_go e]
      have k := left_lt e
      rw [ranks_fuel ax n m _ (by omega) (by omega)]
/-- all ranks, the last one, empty or not, too -/
def rk (ax : List (C × C)) (l : List Rule) : List (List Rule) := ranks ax l.length l
theorem rk_stop {ax : List (C × C)} {l : List Rule} (h : left ax l = l) : rk ax l = [l] := ranks_stop h
theorem rk_go {ax : List (C × C)} {l : List Rule} (h : left ax l ≠ l) : rk ax l = l :: rk ax (left ax l) := by
  have k := left_lt h
  unfold rk
  have e : l.length = (l.length - 1) + 1 := by omega
  rw [e, ranks_go h]
  rw [ranks_fuel ax (l.length - 1) (left ax l).length _ (by omega) (Nat.le_refl _)]
theorem rk_last (ax : List (C × C)) : ∀ (n : Nat) (l : List Rule), l.length ≤ n → ∃ (pre : List (List Rule)) (m : List Rule), rk ax l = pre ++ [m] ∧ (∀ x ∈ pre, x ≠ []) ∧ (∀ a ∈ m, a ∈ l) ∧ (∀ x ∈ pre, ∀ a ∈ x, a ∈ l) ∧ pre.length ≤ n
  | 0, l, h => by
    have e : l = [] := List.eq_nil_of_length_eq_zero (Nat.le_zero.mp h)
    subst e
    exact ⟨[], [], rfl, by simp, by simp, by simp, Nat.le_refl _⟩
  | n + 1, l, h => by
    by_cases e : left ax l = l
    · exact ⟨[], l, rk_stop e, by simp, fun _ q => q, by simp, Nat.zero_le _⟩
    · have k := left_lt e
      obtain ⟨pre, m, h1, h2, h3, h4, h5⟩ := rk_last ax n (left ax l) (by omega)
      refine ⟨l :: pre, m, by rw [rk_go e, h1]; rfl, fun x hx => ?_, fun a ha => left_sub ax l a (h3 a ha), fun x hx a ha => ?_, Nat.succ_le_succ h5⟩
      · rcases List.mem_cons.mp hx with q | q
        · rw [q]
          intro z
          rw [z] at k
          exact absurd k (Nat.not_lt_zero _)
        · exact h2 x q
      · rcases List.mem_cons.mp hx with q | q
        · rw [← q]; exact ha
        · exact left_sub ax l a (h4 x q a ha)
theorem rk_ne (ax : List (C × C)) (l : List Rule) : rk ax l ≠ [] := by
  obtain ⟨pre, m, h, _⟩ := rk_last ax l.length l (Nat.le_refl _)
  rw [h]
  simp
/-- the axioms that are added for the rules of the last rank -/
def gone (m : List Rule) : List (C × C) := m.map fun x => (x.1, C.bot)
def others (l m : List Rule) : List Rule := l.filter fun x => !m.contains x
theorem others_lt {l m : List Rule} (hm : m ≠ []) (h : ∀ a ∈ m, a ∈ l) : (others l m).length < l.length := by
  refine filter_lt fun e => ?_
  cases m with
  | nil => exact hm rfl
  | cons a m =>
    have ha : a ∈ l := h a List.mem_cons_self
    rw [← e] at ha
    have q := (List.mem_filter.mp ha).2
    simp at q
theorem ranked_stop {n : Nat} {ax : List (C × C)} {l : List Rule} {pre : List (List Rule)} (h : rk ax l = pre ++ [[]]) : ranked n ax l = (ax, rk ax l) := by
  cases n with
  | zero => rfl
  | succ n =>
    show (match (rk ax l).getLast? with
      | none => (ax, rk ax l)
      | some m => if m = [] then (ax, rk ax l) else ranked n (ax ++ gone m) (others l m)) = _
    rw [h, List.getLast?_append]
    rfl
theorem ranked_go {n : Nat} {ax : List (C × C)} {l m : List Rule} {pre : List (List Rule)} (h : rk ax l = pre ++ [m]) (hm : m ≠ []) : ranked (n + 1) ax l = ranked n (ax ++ gone m) (others l m) := by
  show (match (rk ax l).getLast? with
      | none => (ax, rk ax l)
      | some m => if m = [] then (ax, rk ax l) else ranked n (ax ++ gone m) (others l m)) = _
  have e : (rk ax l).getLast? = some m := by
    rw [h, List.getLast?_append]
    rfl
  rw [e]
  exact if_neg hm
theorem ranked_fuel : ∀ (n m : Nat) (ax : List (C × C)) (l : List Rule), l.length < n → l.length < m → ranked n ax l = ranked m ax l
  | 0, _, _, _, h, _ => absurd h (Nat.not_lt_zero _)
  | _ + 1, 0, _, _, _, h => absurd h (Nat.not_lt_zero _)
  | n + 1, m + 1, ax, l, h1, h2 => by
    obtain ⟨pre, k, e, _, hs, _⟩ := rk_last ax l.length l (Nat.le_refl _)
    by_cases hk : k = []
    · subst hk
      rw [ranked_stop e, ranked_stop e]
    · rw [ranked_go e hk, ranked_go e hk]
      have q := others_lt hk hs
      exact ranked_fuel n m _ _ (by omega) (by omega)
def rd (ax : List (C × C)) (l : List Rule) : List (C × C) × List (List Rule) := ranked (l.length + 1) ax l
theorem rd_stop {ax : List (C × C)} {l : List Rule} {pre : List (List Rule)} (h : rk ax l = pre ++ [[]]) : rd ax l = (ax, rk ax l) := ranked_stop h
theorem rd_go {ax : List (C × C)} {l m : List Rule} {pre : List (List Rule)} (h : rk ax l = pre ++ [m]) (hm : m ≠ []) (hs : ∀ a ∈ m, a ∈ l) : rd ax l = rd (ax ++ gone m) (others l m) := by
  unfold rd
  rw [ranked_go h hm]
  have q := others_lt hm hs
  exact ranked_fuel _ _ _ _ (by omega) (by omega)
theorem book_of {ax ax' : List (C × C)} {l : List Rule} {pre : List (List Rule)} (h : rd ax l = (ax', pre ++ [[]])) (hp : ∀ x ∈ pre, x ≠ []) : book ax l = (ax', pre) := by
  have e : book ax l = ((rd ax l).1, (rd ax l).2.filter fun m => m != []) := rfl
  rw [e, h]
  have q : (pre ++ [([] : List Rule)]).filter (fun m => m != []) = pre := by
    rw [List.filter_append]
    have q1 : pre.filter (fun m => m != []) = pre := List.filter_eq_self.mpr fun x hx => by
      have := hp x hx
      cases x with
      | nil => exact absurd rfl this
      | cons a x => rfl
    rw [q1]
    have q2 : [([] : List Rule)].filter (fun m => m != []) = [] := rfl
    rw [q2, List.append_nil]
  rw [q]
/-- what a ranking keeps: InP of the final axioms and of each rank -/
structure BookIn (own : List C) (b : List (C × C) × List (List Rule)) : Prop where
  ax : InP own b.1
  rs : ∀ l ∈ b.2, InP own l
theorem in_gone {own : List C} {m : List Rule} (h : InP own m) : InP own (gone m) := fun a ha => by
  obtain ⟨x, hx, e⟩ := List.mem_map.mp ha
  rw [← e]
  exact ⟨(h x hx).1, In.bot'⟩
theorem rank_at {b : List (C × C) × List (List Rule)} {c : C} {i : Nat} (hi : i < b.2.length) (h : ∀ j, j < i → strange b.1 (b.2.getD j []) c = true) (h1 : strange b.1 (b.2.getD i []) c = false) : rankOf b c = i := by
  have q : (List.range b.2.length).find? (fun i => !strange b.1 (b.2.getD i []) c) = some i := by
    rw [List.find?_range_eq_some]
    refine ⟨by rw [h1]; rfl, List.mem_range.mpr hi, fun j hj => by rw [h j hj]; rfl⟩
  unfold rankOf
  rw [q]
  rfl
theorem rank_none {b : List (C × C) × List (List Rule)} {c : C} (h : ∀ j, j < b.2.length → strange b.1 (b.2.getD j []) c = true) : rankOf b c = b.2.length := by
  have q : (List.range b.2.length).find? (fun i => !strange b.1 (b.2.getD i []) c) = none := by
    rw [List.find?_range_eq_none]
    intro i hi
    rw [h i hi]
    rfl
  unfold rankOf
  rw [q]
  rfl
def manyRanks (rs : List (List Rule)) (x : Rule) : Nat := (rs.filter fun l => l.contains x).length
theorem many_eq (rs : List (List Rule)) (x : Rule) : ((List.range rs.length).filter fun k => (rs.getD k []).contains x).length = manyRanks rs x := by
  have e : rs = (List.range rs.length).map fun k => rs.getD k [] := by
    refine List.ext_getElem (by simp) fun i h1 h2 => ?_
    rw [List.getElem_map, List.getElem_range, List.getD_eq_getElem?_getD, List.getElem?_eq_getElem h1]
    rfl
  unfold manyRanks
  conv => rhs; rw [e, List.filter_map, List.length_map]
  rfl
theorem told_eq (rs : List (List Rule)) (l : List Rule) : ((List.range l.length).map fun i => match l[i]? with
      | some x => ((List.range rs.length).filter fun k => (rs.getD k []).contains x).length
      | none => 0) = l.map (manyRanks rs) := by
  refine List.ext_getElem (by simp) fun i h1 h2 => ?_
  rw [List.getElem_map, List.getElem_map, List.getElem_range]
  have hi : i < l.length := by simpa using h1
  rw [List.getElem?_eq_getElem hi]
  exact many_eq rs _
end ExM
/-! The words of the walk: data in the heap. -/
namespace Ex
open PySem PySem.Spec PyProof.Rows L2
open Oc (C)

/-! ### the text by places -/
def top (i : Nat) : Stmt := PySem.Challenge.pw_exceptranks_s01_answers.main.body.getD i (.Pass ⟨0, 0, 0, 0⟩)

/-! ### concepts, rules, kinds as data -/
def dC : C → PyData
  | .top => .tuple [.int 0]
  | .bot => .tuple [.int 1]
  | .name a => .tuple [.int 2, .int a]
  | .and c d => .tuple [.int 3, dC c, dC d]
  | .or c d => .tuple [.int 4, dC c, dC d]
  | .not c => .tuple [.int 5, dC c]
  | .some r c => .tuple [.int 6, .int r, dC c]
  | .all r c => .tuple [.int 7, .int r, dC c]
/-- how many numbers a concept has -/
def sz : C → Nat
  | .top => 1
  | .bot => 1
  | .name _ => 2
  | .and c d => 1 + sz c + sz d
  | .or c d => 1 + sz c + sz d
  | .not c => 1 + sz c
  | .some _ c => 2 + sz c
  | .all _ c => 2 + sz c
theorem sz_pos : ∀ c : C, 1 ≤ sz c
  | .top => Nat.le_refl _
  | .bot => Nat.le_refl _
  | .name _ => by simp only [sz]; omega
  | .and c d => by simp only [sz]; omega
  | .or c d => by simp only [sz]; omega
  | .not c => by simp only [sz]; omega
  | .some _ c => by simp only [sz]; omega
  | .all _ c => by simp only [sz]; omega
theorem dC_lay : ∀ c : C, (dC c).canLay0 = true
  | .top => rfl
  | .bot => rfl
  | .name a => rfl
  | .and c d => by simp only [dC, PyData.canLay0, PyData.canLayAll0, dC_lay c, dC_lay d, Bool.and_self]
  | .or c d => by simp only [dC, PyData.canLay0, PyData.canLayAll0, dC_lay c, dC_lay d, Bool.and_self]
  | .not c => by simp only [dC, PyData.canLay0, PyData.canLayAll0, dC_lay c, Bool.and_self]
  | .some r c => by simp only [dC, PyData.canLay0, PyData.canLayAll0, dC_lay c, Bool.and_self]
  | .all r c => by simp only [dC, PyData.canLay0, PyData.canLayAll0, dC_lay c, Bool.and_self]
theorem dC_depth : ∀ c : C, (dC c).depth ≤ sz c
  | .top => by simp [dC, PyData.depth, PyData.depthAll, sz]
  | .bot => by simp [dC, PyData.depth, PyData.depthAll, sz]
  | .name a => by simp [dC, PyData.depth, PyData.depthAll, sz]
  | .and c d => by
    have h1 := dC_depth c
    have h2 := dC_depth d
    have p1 := sz_pos c
    simp only [dC, PyData.depth, PyData.depthAll, sz]
    omega
  | .or c d => by
    have h1 := dC_depth c
    have h2 := dC_depth d
    have p1 := sz_pos c
    simp only [dC, PyData.depth, PyData.depthAll, sz]
    omega
  | .not c => by
    have h1 := dC_depth c
    simp only [dC, PyData.depth, PyData.depthAll, sz]
    omega
  | .some r c => by
    have h1 := dC_depth c
    simp only [dC, PyData.depth, PyData.depthAll, sz]
    omega
  | .all r c => by
    have h1 := dC_depth c
    simp only [dC, PyData.depth, PyData.depthAll, sz]
    omega
/-- f tells things apart -/
def Apart {α : Type} [DecidableEq α] (f : α → PyData) : Prop := ∀ a b, PyData.eqv (f a) (f b) = decide (a = b)
theorem nat_beq (a b : Nat) : ((a : Int) == (b : Int)) = decide (a = b) := by
  by_cases h : a = b
  · subst h; simp
  · rw [decide_eq_false h]
    exact beq_eq_false_iff_ne.mpr (by omega)
theorem eqv_tt (xs ys : List PyData) : PyData.eqv (.tuple xs) (.tuple ys) = PyData.eqvAll xs ys := by rw [PyData.eqv]
theorem eqv_ii (i j : Int) : PyData.eqv (.int i) (.int j) = (i == j) := by rw [PyData.eqv]
theorem eqv_it (i : Int) (ys : List PyData) : PyData.eqv (.int i) (.tuple ys) = false := by rw [PyData.eqv] <;> simp
theorem eqv_ti (i : Int) (ys : List PyData) : PyData.eqv (.tuple ys) (.int i) = false := by rw [PyData.eqv] <;> simp
theorem eqvAll_nn : PyData.eqvAll [] [] = true := by rw [PyData.eqvAll]
theorem eqvAll_nc (y : PyData) (ys : List PyData) : PyData.eqvAll [] (y :: ys) = false := by rw [PyData.eqvAll] <;> simp
theorem eqvAll_cn (y : PyData) (ys : List PyData) : PyData.eqvAll (y :: ys) [] = false := by rw [PyData.eqvAll] <;> simp
theorem eqvAll_cc (x y : PyData) (xs ys : List PyData) : PyData.eqvAll (x :: xs) (y :: ys) = (PyData.eqv x y && PyData.eqvAll xs ys) := by rw [PyData.eqvAll]
/-- what follows the word of a concept -/
def dT : C → List PyData
  | .top => []
  | .bot => []
  | .name a => [.int a]
  | .and c d => [dC c, dC d]
  | .or c d => [dC c, dC d]
  | .not c => [dC c]
  | .some r c => [.int r, dC c]
  | .all r c => [.int r, dC c]
def wd : C → Int
  | .top => 0
  | .bot => 1
  | .name _ => 2
  | .and _ _ => 3
  | .or _ _ => 4
  | .not _ => 5
  | .some _ _ => 6
  | .all _ _ => 7
theorem dC_eq (c : C) : dC c = .tuple (.int (wd c) :: dT c) := by cases c <;> rfl
theorem dC_cc (c d : C) : PyData.eqv (dC c) (dC d) = ((wd c == wd d) && PyData.eqvAll (dT c) (dT d)) := by
  rw [dC_eq c, dC_eq d, eqv_tt, eqvAll_cc, eqv_ii]
theorem wd_ne {c d : C} (h : (wd c == wd d) = false) : PyData.eqv (dC c) (dC d) = decide (c = d) := by
  rw [dC_cc, h, Bool.false_and]
  refine (decide_eq_false fun e => ?_).symm
  rw [e] at h
  simp at h
theorem dC_apart : Apart dC := by
  intro a
  induction a with
  | top => intro b; cases b <;> first | exact wd_ne rfl | (rw [dC_cc]; simp [wd, dT, eqvAll_nn])
  | bot => intro b; cases b <;> first | exact wd_ne rfl | (rw [dC_cc]; simp [wd, dT, eqvAll_nn])
  | name n => intro b; cases b <;> first | exact wd_ne rfl | (rw [dC_cc]; simp only [wd, dT, eqvAll_cc, eqvAll_nn, eqv_ii, nat_beq]; simp)
  | and c d hc hd => intro b; cases b <;> first | exact wd_ne rfl | (rw [dC_cc]; simp only [wd, dT, eqvAll_cc, eqvAll_nn, eqv_ii, nat_beq, hc, hd]; simp)
  | or c d hc hd => intro b; cases b <;> first | exact wd_ne rfl | (rw [dC_cc]; simp only [wd, dT, eqvAll_cc, eqvAll_nn, eqv_ii, nat_beq, hc, hd]; simp)
  | not c hc => intro b; cases b <;> first | exact wd_ne rfl | (rw [dC_cc]; simp only [wd, dT, eqvAll_cc, eqvAll_nn, eqv_ii, nat_beq, hc]; simp)
  | some r c hc => intro b; cases b <;> first | exact wd_ne rfl | (rw [dC_cc]; simp only [wd, dT, eqvAll_cc, eqvAll_nn, eqv_ii, nat_beq, hc]; simp)
  | all r c hc => intro b; cases b <;> first | exact wd_ne rfl | (rw [dC_cc]; simp only [wd, dT, eqvAll_cc, eqvAll_nn, eqv_ii, nat_beq, hc]; simp)
abbrev Rl := C × C
def dR (r : Rl) : PyData := .tuple [dC r.1, dC r.2]
theorem dR_apart : Apart dR := by
  intro a b
  obtain ⟨a1, a2⟩ := a
  obtain ⟨b1, b2⟩ := b
  have e : PyData.eqv (dR (a1, a2)) (dR (b1, b2)) = (PyData.eqv (dC a1) (dC b1) && (PyData.eqv (dC a2) (dC b2) && true)) := by
    show PyData.eqv (.tuple [dC a1, dC a2]) (.tuple [dC b1, dC b2]) = _
    rw [eqv_tt, eqvAll_cc, eqvAll_cc, eqvAll_nn]
  rw [e, dC_apart, dC_apart]
  simp only [Prod.mk.injEq, Bool.decide_and, Bool.and_true]
theorem all_apart {α : Type} [DecidableEq α] {f : α → PyData} (h : Apart f) : ∀ l m : List α, PyData.eqvAll (l.map f) (m.map f) = decide (l = m)
  | [], [] => by simp [eqvAll_nn]
  | [], _ :: _ => by simp [eqvAll_nc]
  | _ :: _, [] => by simp [eqvAll_cn]
  | a :: l, b :: m => by
    have e : PyData.eqvAll ((a :: l).map f) ((b :: m).map f) = (PyData.eqv (f a) (f b) && PyData.eqvAll (l.map f) (m.map f)) := eqvAll_cc ..
    rw [e, h a b, all_apart h l m]
    simp only [List.cons.injEq, Bool.decide_and]
theorem list_apart {α : Type} [DecidableEq α] {f : α → PyData} (h : Apart f) (l m : List α) : PyData.eqv (.list (l.map f)) (.list (m.map f)) = decide (l = m) := by
  rw [PyData.eqv]
  exact all_apart h l m
abbrev Kd := List Bool
def dK (k : Kd) : PyData := .tuple (k.map PyData.bool)
theorem bool_apart : Apart PyData.bool := by
  intro a b
  simp only [PyData.eqv]
  cases a <;> cases b <;> rfl
theorem dK_apart : Apart dK := by
  intro a b
  unfold dK
  rw [PyData.eqv]
  exact all_apart bool_apart a b
theorem any_apart {α : Type} [DecidableEq α] {f : α → PyData} (h : Apart f) (l : List α) (a : α) : (l.map f).any (fun z => PyData.eqv z (f a)) = l.contains a := by
  induction l with
  | nil => rfl
  | cons b l ih =>
    rw [List.map_cons, List.any_cons, ih, h b a, List.contains_cons]
    by_cases e : b = a
    · subst e; simp
    · have e' : ¬ a = b := fun z => e z.symm
      simp [e, e']
theorem shaped_of {d : PyData} {n : Nat} (h1 : d.canLay0 = true) (h2 : d.depth ≤ n) (hn : n ≤ 64) : SeqAt.shaped d = true := by
  unfold SeqAt.shaped
  rw [h1, Bool.true_and]
  exact decide_eq_true (Nat.le_trans h2 hn)
theorem all_lay {α : Type} {f : α → PyData} (h : ∀ a, (f a).canLay0 = true) : ∀ l : List α, PyData.canLayAll0 (l.map f) = true
  | [] => rfl
  | a :: l => by
    simp only [List.map_cons, PyData.canLayAll0, h a, all_lay h l, Bool.and_self]
theorem all_depth {α : Type} {f : α → PyData} {n : Nat} : ∀ l : List α, (∀ a ∈ l, (f a).depth ≤ n) → PyData.depthAll (l.map f) ≤ n
  | [], _ => by simp [PyData.depthAll]
  | a :: l, h => by
    have h1 := h a List.mem_cons_self
    have h2 := all_depth l fun b hb => h b (List.mem_cons_of_mem _ hb)
    simp only [List.map_cons, PyData.depthAll]
    omega
theorem list_shaped {α : Type} {f : α → PyData} {n : Nat} (h : ∀ a, (f a).canLay0 = true) {l : List α} (hd : ∀ a ∈ l, (f a).depth ≤ n) (hn : n ≤ 60) : SeqAt.shaped (.list (l.map f)) = true := by
  have q := all_depth l hd
  exact shaped_of (n := n + 1) (by simp only [PyData.canLay0]; exact all_lay h l) (by simp only [PyData.depth]; omega) (by omega)
/-- small enough -/
def Sm (c : C) : Prop := sz c ≤ 30
def SmR (r : Rl) : Prop := Sm r.1 ∧ Sm r.2
theorem dC_shaped {c : C} (h : Sm c) : SeqAt.shaped (dC c) = true := shaped_of (dC_lay c) (dC_depth c) (Nat.le_trans h (by decide))
theorem dR_lay (r : Rl) : (dR r).canLay0 = true := by simp only [dR, PyData.canLay0, PyData.canLayAll0, dC_lay, Bool.and_self]
theorem dR_depth {r : Rl} (h : SmR r) : (dR r).depth ≤ 31 := by
  have h1 := dC_depth r.1
  have h2 := dC_depth r.2
  have k1 : sz r.1 ≤ 30 := h.1
  have k2 : sz r.2 ≤ 30 := h.2
  simp only [dR, PyData.depth, PyData.depthAll]
  omega
theorem dR_shaped {r : Rl} (h : SmR r) : SeqAt.shaped (dR r) = true := shaped_of (dR_lay r) (dR_depth h) (by decide)
theorem dCs_shaped {l : List C} (h : ∀ c ∈ l, Sm c) : SeqAt.shaped (.list (l.map dC)) = true := list_shaped (n := 30) dC_lay (fun c hc => Nat.le_trans (dC_depth c) (h c hc)) (by decide)
theorem dRs_shaped {l : List Rl} (h : ∀ r ∈ l, SmR r) : SeqAt.shaped (.list (l.map dR)) = true := list_shaped (n := 31) dR_lay (fun r hr => dR_depth (h r hr)) (by decide)
theorem dK_lay (k : Kd) : (dK k).canLay0 = true := by
  simp only [dK, PyData.canLay0]
  exact all_lay (f := PyData.bool) (fun _ => rfl) k
theorem dK_depth (k : Kd) : (dK k).depth ≤ 1 := by
  have q := all_depth (f := PyData.bool) (n := 0) k fun a _ => by simp [PyData.depth]
  simp only [dK, PyData.depth]
  omega
theorem dKs_shaped (l : List Kd) : SeqAt.shaped (.list (l.map dK)) = true := list_shaped (n := 1) dK_lay (fun k _ => dK_depth k) (by decide)

/-! ### heaps -/
/-- tuples stand, and what is frozen -/
structure TS (H H' : Hp) : Prop where
  t : ∀ b xs, H b = some (.tup xs) → H' b = some (.tup xs)
  f : ∀ b o u, H b = some (.frz o u) → H' b = some (.frz o u)
theorem TS.refl (H : Hp) : TS H H := ⟨fun _ _ h => h, fun _ _ _ h => h⟩
theorem TS.trans {H H1 H2 : Hp} (a : TS H H1) (b : TS H1 H2) : TS H H2 := ⟨fun c x h => b.t c x (a.t c x h), fun c o u h => b.f c o u (a.f c o u h)⟩
theorem _root_.L2.Same.ts {H H' : Hp} (s : Same H H') : TS H H' := ⟨fun _ _ h => s _ _ h, fun _ _ _ h => s _ _ h⟩
theorem TS.new {H : Hp} {a : Addr} {o : HO} (h : H a = none) : TS H (upd H a o) := ⟨fun b xs q => by rw [upd_ne (ne_of_none q h)]; exact q, fun b o u q => by rw [upd_ne (ne_of_none q h)]; exact q⟩
theorem TS.lst {H : Hp} {a : Addr} {xs : List V} {o : HO} (h : H a = some (.lst xs)) : TS H (upd H a o) := ⟨fun b ys q => by rw [upd_ne (ne_of q h (by intro z; cases z))]; exact q, fun b o u q => by rw [upd_ne (ne_of q h (by intro z; cases z))]; exact q⟩
theorem TS.ins {H : Hp} {a c d : Addr} {fs : List (Str × V)} {o : HO} (h : H a = some (.ins c d fs)) : TS H (upd H a o) := ⟨fun b ys q => by rw [upd_ne (ne_of q h (by intro z; cases z))]; exact q, fun b o u q => by rw [upd_ne (ne_of q h (by intro z; cases z))]; exact q⟩
theorem same_new {H : Hp} {p : Addr} {o : HO} (h : H p = none) : Same H (upd H p o) := fun b u q => by rw [upd_ne (ne_of_none q h)]; exact q
/-- a list, made since H, is changed -/
theorem same_upd {H H' : Hp} {p : Addr} {o : HO} (s : Same H H') (h : H p = none) : Same H (upd H' p o) := fun b u q => by rw [upd_ne (ne_of_none q h)]; exact s b u q
theorem sqT_ts {K : PySem.W.Frag} {H H' : Hp} {a : Addr} {xs : List V} (s : TS H H') (h : SqT K H a xs) : SqT K H' a xs := by
  rcases h with (h | ⟨o, h⟩) | h
  · exact .inl (.inl (s.t _ _ h))
  · exact .inl (.inr ⟨o, s.f _ _ _ h⟩)
  · exact .inr h
/-- v is the concept c -/
def CA (K : PySem.W.Frag) (H : Hp) : C → V → Prop
  | .top, v => ∃ a, v = .ref a ∧ SqT K H a [.int 0]
  | .bot, v => ∃ a, v = .ref a ∧ SqT K H a [.int 1]
  | .name n, v => ∃ a, v = .ref a ∧ SqT K H a [.int 2, .int n]
  | .and c d, v => ∃ a u w, v = .ref a ∧ SqT K H a [.int 3, u, w] ∧ CA K H c u ∧ CA K H d w
  | .or c d, v => ∃ a u w, v = .ref a ∧ SqT K H a [.int 4, u, w] ∧ CA K H c u ∧ CA K H d w
  | .not c, v => ∃ a u, v = .ref a ∧ SqT K H a [.int 5, u] ∧ CA K H c u
  | .some r c, v => ∃ a u, v = .ref a ∧ SqT K H a [.int 6, .int r, u] ∧ CA K H c u
  | .all r c, v => ∃ a u, v = .ref a ∧ SqT K H a [.int 7, .int r, u] ∧ CA K H c u
theorem CA.ts {K : PySem.W.Frag} {H H' : Hp} (s : TS H H') : ∀ {c : C} {v : V}, CA K H c v → CA K H' c v
  | .top, v, ⟨a, e, h⟩ => ⟨a, e, sqT_ts s h⟩
  | .bot, v, ⟨a, e, h⟩ => ⟨a, e, sqT_ts s h⟩
  | .name n, v, ⟨a, e, h⟩ => ⟨a, e, sqT_ts s h⟩
  | .and c d, v, ⟨a, u, w, e, h, h1, h2⟩ => ⟨a, u, w, e, sqT_ts s h, CA.ts s h1, CA.ts s h2⟩
  | .or c d, v, ⟨a, u, w, e, h, h1, h2⟩ => ⟨a, u, w, e, sqT_ts s h, CA.ts s h1, CA.ts s h2⟩
  | .not c, v, ⟨a, u, e, h, h1⟩ => ⟨a, u, e, sqT_ts s h, CA.ts s h1⟩
  | .some r c, v, ⟨a, u, e, h, h1⟩ => ⟨a, u, e, sqT_ts s h, CA.ts s h1⟩
  | .all r c, v, ⟨a, u, e, h, h1⟩ => ⟨a, u, e, sqT_ts s h, CA.ts s h1⟩
theorem CA.dp {K : PySem.W.Frag} {H : Hp} : ∀ {c : C} {v : V}, CA K H c v → Dp K H v (dC c)
  | .top, v, ⟨a, e, h⟩ => e ▸ .tup h (.cons (.int _) .nil)
  | .bot, v, ⟨a, e, h⟩ => e ▸ .tup h (.cons (.int _) .nil)
  | .name n, v, ⟨a, e, h⟩ => e ▸ .tup h (.cons (.int _) (.cons (.int _) .nil))
  | .and c d, v, ⟨a, u, w, e, h, h1, h2⟩ => e ▸ .tup h (.cons (.int _) (.cons (CA.dp h1) (.cons (CA.dp h2) .nil)))
  | .or c d, v, ⟨a, u, w, e, h, h1, h2⟩ => e ▸ .tup h (.cons (.int _) (.cons (CA.dp h1) (.cons (CA.dp h2) .nil)))
  | .not c, v, ⟨a, u, e, h, h1⟩ => e ▸ .tup h (.cons (.int _) (.cons (CA.dp h1) .nil))
  | .some r c, v, ⟨a, u, e, h, h1⟩ => e ▸ .tup h (.cons (.int _) (.cons (.int _) (.cons (CA.dp h1) .nil)))
  | .all r c, v, ⟨a, u, e, h, h1⟩ => e ▸ .tup h (.cons (.int _) (.cons (.int _) (.cons (CA.dp h1) .nil)))
/-- every concept is a tuple that begins with its word -/
theorem CA.word {K : PySem.W.Frag} {H : Hp} : ∀ {c : C} {v : V}, CA K H c v → ∃ a r, v = .ref a ∧ SqT K H a (.int (wd c) :: r)
  | .top, v, ⟨a, e, h⟩ => ⟨a, _, e, h⟩
  | .bot, v, ⟨a, e, h⟩ => ⟨a, _, e, h⟩
  | .name n, v, ⟨a, e, h⟩ => ⟨a, _, e, h⟩
  | .and c d, v, ⟨a, u, w, e, h, _, _⟩ => ⟨a, _, e, h⟩
  | .or c d, v, ⟨a, u, w, e, h, _, _⟩ => ⟨a, _, e, h⟩
  | .not c, v, ⟨a, u, e, h, _⟩ => ⟨a, _, e, h⟩
  | .some r c, v, ⟨a, u, e, h, _⟩ => ⟨a, _, e, h⟩
  | .all r c, v, ⟨a, u, e, h, _⟩ => ⟨a, _, e, h⟩
/-- v is the rule (or axiom) r -/
def PA' (K : PySem.W.Frag) (H : Hp) (r : Rl) (v : V) : Prop := ∃ a u w, v = .ref a ∧ SqT K H a [u, w] ∧ CA K H r.1 u ∧ CA K H r.2 w
theorem PA'.ts {K : PySem.W.Frag} {H H' : Hp} (s : TS H H') {r : Rl} {v : V} : PA' K H r v → PA' K H' r v := fun ⟨a, u, w, e, h, h1, h2⟩ => ⟨a, u, w, e, sqT_ts s h, h1.ts s, h2.ts s⟩
theorem PA'.dp {K : PySem.W.Frag} {H : Hp} {r : Rl} {v : V} : PA' K H r v → Dp K H v (dR r) := fun ⟨a, u, w, e, h, h1, h2⟩ => e ▸ .tup h (.cons h1.dp (.cons h2.dp .nil))
/-- v is the kind k -/
def KA (K : PySem.W.Frag) (H : Hp) (k : Kd) (v : V) : Prop := ∃ a, v = .ref a ∧ SqT K H a (k.map V.bl)
theorem KA.ts {K : PySem.W.Frag} {H H' : Hp} (s : TS H H') {k : Kd} {v : V} : KA K H k v → KA K H' k v := fun ⟨a, e, h⟩ => ⟨a, e, sqT_ts s h⟩
theorem bls_dp {K : PySem.W.Frag} {H : Hp} : ∀ k : List Bool, DpAll K H (k.map V.bl) (k.map PyData.bool)
  | [] => .nil
  | b :: k => .cons (.bl b) (bls_dp k)
theorem KA.dp {K : PySem.W.Frag} {H : Hp} {k : Kd} {v : V} : KA K H k v → Dp K H v (dK k) := fun ⟨a, e, h⟩ => e ▸ .tup h (bls_dp k)
theorem paired_dp {K : PySem.W.Frag} {H : Hp} {α : Type} {R : α → V → Prop} {f : α → PyData} (h : ∀ a v, R a v → Dp K H v (f a)) : ∀ {l : List α} {vs : List V}, Paired R l vs → DpAll K H vs (l.map f)
  | _, _, .nil => .nil
  | _, _, .cons r t => .cons (h _ _ r) (paired_dp h t)
/-- at a stands a list of the things l -/
def LA {α : Type} (R : Hp → α → V → Prop) (H : Hp) (a : Addr) (l : List α) : Prop := ∃ vs, H a = some (.lst vs) ∧ Paired (R H) l vs
theorem paired_imp {α : Type} {R S : α → V → Prop} (h : ∀ a v, R a v → S a v) : ∀ {l : List α} {vs : List V}, Paired R l vs → Paired S l vs
  | _, _, .nil => .nil
  | _, _, .cons r t => .cons (h _ _ r) (paired_imp h t)
theorem paired_app {α : Type} {R : α → V → Prop} : ∀ {l m : List α} {vs ws : List V}, Paired R l vs → Paired R m ws → Paired R (l ++ m) (vs ++ ws)
  | _, _, _, _, .nil, s => s
  | _, _, _, _, .cons r t, s => .cons r (paired_app t s)
theorem paired_len {α : Type} {R : α → V → Prop} : ∀ {l : List α} {vs : List V}, Paired R l vs → l.length = vs.length
  | _, _, .nil => rfl
  | _, _, .cons _ t => congrArg Nat.succ (paired_len t)
theorem paired_at {α : Type} {R : α → V → Prop} : ∀ {l : List α} {vs : List V} {i : Nat} {v : V}, Paired R l vs → vs[i]? = some v → ∃ a, l[i]? = some a ∧ R a v
  | _, _, _, _, .nil, e => by simp at e
  | _, _, 0, v, .cons r _, e => by
    simp at e
    subst e
    exact ⟨_, rfl, r⟩
  | _, _, i + 1, v, .cons _ t, e => by
    obtain ⟨a, h1, h2⟩ := paired_at (i := i) t (by simpa using e)
    exact ⟨a, by simpa using h1, h2⟩
theorem paired_get {α : Type} {R : α → V → Prop} : ∀ {l : List α} {vs : List V} {i : Nat} {a : α}, Paired R l vs → l[i]? = some a → ∃ v, vs[i]? = some v ∧ R a v
  | _, _, _, _, .nil, e => by simp at e
  | _, _, 0, v, .cons r _, e => by
    simp at e
    subst e
    exact ⟨_, rfl, r⟩
  | _, _, i + 1, v, .cons _ t, e => by
    obtain ⟨a, h1, h2⟩ := paired_get (i := i) t (by simpa using e)
    exact ⟨a, by simpa using h1, h2⟩
theorem paired_take {α : Type} {R : α → V → Prop} : ∀ {l : List α} {vs : List V} (n : Nat), Paired R l vs → Paired R (l.take n) (vs.take n)
  | _, _, 0, _ => .nil
  | _, _, _ + 1, .nil => .nil
  | _, _, n + 1, .cons r t => .cons r (paired_take n t)
theorem paired_drop {α : Type} {R : α → V → Prop} : ∀ {l : List α} {vs : List V} (n : Nat), Paired R l vs → Paired R (l.drop n) (vs.drop n)
  | _, _, 0, r => r
  | _, _, _ + 1, .nil => .nil
  | _, _, n + 1, .cons _ t => paired_drop n t
/-- a relation that leans on tuples alone -/
structure Stays {α : Type} (R : Hp → α → V → Prop) : Prop where
  go : ∀ (H H' : Hp) (a : α) (v : V), TS H H' → R H a v → R H' a v
theorem stC {K : PySem.W.Frag} : Stays (CA K) := ⟨fun _ _ _ _ s h => h.ts s⟩
theorem stP {K : PySem.W.Frag} : Stays (PA' K) := ⟨fun _ _ _ _ s h => h.ts s⟩
theorem stK {K : PySem.W.Frag} : Stays (KA K) := ⟨fun _ _ _ _ s h => h.ts s⟩
def BA (_ : Hp) (b : Bool) (v : V) : Prop := v = .bl b
theorem stB : Stays BA := ⟨fun _ _ _ _ _ h => h⟩
theorem LA.same {α : Type} {R : Hp → α → V → Prop} (st : Stays R) {H H' : Hp} {a : Addr} {l : List α} (s : Same H H') : LA R H a l → LA R H' a l := fun ⟨vs, h, p⟩ => ⟨vs, s _ _ h, paired_imp (fun _ _ q => st.go _ _ _ _ s.ts q) p⟩
theorem LA.ts {α : Type} {R : Hp → α → V → Prop} (st : Stays R) {H H' : Hp} {a : Addr} {l : List α} (s : TS H H') (k : ∀ o, H a = some o → H' a = some o) : LA R H a l → LA R H' a l := fun ⟨vs, h, p⟩ => ⟨vs, k _ h, paired_imp (fun _ _ q => st.go _ _ _ _ s q) p⟩
theorem LA.sq {α : Type} {R : Hp → α → V → Prop} {K : PySem.W.Frag} {H : Hp} {a : Addr} {l : List α} : LA R H a l → ∃ vs, SqL K H a vs ∧ Paired (R H) l vs := fun ⟨vs, h, p⟩ => ⟨vs, SqL.of h, p⟩
theorem paired_bl : ∀ {bs : List Bool} {us : List V} {H : Hp}, Paired (BA H) bs us → us = bs.map V.bl
  | _, _, _, .nil => rfl
  | _, _, _, .cons r t => by
    rw [List.map_cons, ← paired_bl t]
    exact congrArg (· :: _) r
theorem line_big {n : Nat} (h : n ≤ 1000000) : n < sizeLine := Nat.lt_of_le_of_lt h (by decide)
end Ex
/-! The text by places; what the top has written. -/
namespace Ex
open PySem PySem.Spec PyProof.Rows L2
abbrev s_numAt : Stmt := top 12
theorem sc_numAt : FnScope ["numbers", "at"] ["numbers", "at"] (defScope s_numAt) := ⟨rfl, rfl, rfl, by decide +kernel, rfl, by decide +kernel, by decide +kernel⟩
abbrev s_numBe : Stmt := top 13
theorem sc_numBe : FnScope ["numbers", "at", "limit", "found"] ["numbers", "at", "limit"] (defScope s_numBe) := ⟨rfl, rfl, rfl, by decide +kernel, rfl, by decide +kernel, by decide +kernel⟩
abbrev s_rdC : Stmt := top 14
theorem sc_rdC : FnScope ["numbers", "at", "word", "one", "behind", "other", "role"] ["numbers", "at"] (defScope s_rdC) := ⟨rfl, rfl, rfl, by decide +kernel, rfl, by decide +kernel, by decide +kernel⟩
abbrev s_rdCs : Stmt := top 15
theorem sc_rdCs : FnScope ["numbers", "many", "found", "at", "turn", "concept"] ["numbers", "many"] (defScope s_rdCs) := ⟨rfl, rfl, rfl, by decide +kernel, rfl, by decide +kernel, by decide +kernel⟩
abbrev s_isAt : Stmt := top 16
theorem sc_isAt : FnScope ["concept"] ["concept"] (defScope s_isAt) := ⟨rfl, rfl, rfl, by decide +kernel, rfl, by decide +kernel, by decide +kernel⟩
abbrev s_parts : Stmt := top 17
theorem sc_parts : FnScope ["concept"] ["concept"] (defScope s_parts) := ⟨rfl, rfl, rfl, by decide +kernel, rfl, by decide +kernel, by decide +kernel⟩
abbrev s_allAt : Stmt := top 18
theorem sc_allAt : FnScope ["concepts", "found", "waiting", "concept"] ["concepts"] (defScope s_allAt) := ⟨rfl, rfl, rfl, by decide +kernel, rfl, by decide +kernel, by decide +kernel⟩
abbrev s_atI : Stmt := inClass (top 20) 0
theorem sc_atI : FnScope ["self", "own"] ["self", "own"] (defScope s_atI) := ⟨rfl, rfl, rfl, by decide +kernel, rfl, by decide +kernel, by decide +kernel⟩
abbrev s_has : Stmt := inClass (top 20) 1
theorem sc_has : FnScope ["self", "kind", "concept", "word"] ["self", "kind", "concept"] (defScope s_has) := ⟨rfl, rfl, rfl, by decide +kernel, rfl, by decide +kernel, by decide +kernel⟩
abbrev s_sat : Stmt := inClass (top 20) 2
theorem sc_sat : FnScope ["self", "kind", "pairs", "one", "other"] ["self", "kind", "pairs"] (defScope s_sat) := ⟨rfl, rfl, rfl, by decide +kernel, rfl, by decide +kernel, by decide +kernel⟩
abbrev s_every : Stmt := inClass (top 20) 3
theorem sc_every : FnScope ["self", "found", "atom", "kind"] ["self"] (defScope s_every) := ⟨rfl, rfl, rfl, by decide +kernel, rfl, by decide +kernel, by decide +kernel⟩
abbrev s_mayRel : Stmt := inClass (top 20) 4
theorem sc_mayRel : FnScope ["self", "kind", "role", "other", "atom", "is_so"] ["self", "kind", "role", "other"] (defScope s_mayRel) := ⟨rfl, rfl, rfl, by decide +kernel, rfl, by decide +kernel, by decide +kernel⟩
abbrev s_shown : Stmt := inClass (top 20) 5
theorem sc_shown : FnScope ["self", "kind", "atom", "is_so", "others", "other"] ["self", "kind", "atom", "is_so", "others"] (defScope s_shown) := ⟨rfl, rfl, rfl, by decide +kernel, rfl, by decide +kernel, by decide +kernel⟩
abbrev s_poss : Stmt := inClass (top 20) 6
theorem sc_poss : FnScope ["self", "kind", "others", "atom", "is_so"] ["self", "kind", "others"] (defScope s_poss) := ⟨rfl, rfl, rfl, by decide +kernel, rfl, by decide +kernel, by decide +kernel⟩
abbrev s_possib : Stmt := inClass (top 20) 7
theorem sc_possib : FnScope ["self", "axioms", "found", "before", "kind"] ["self", "axioms"] (defScope s_possib) := ⟨rfl, rfl, rfl, by decide +kernel, rfl, by decide +kernel, by decide +kernel⟩
abbrev s_moI : Stmt := inClass (top 23) 0
theorem sc_moI : FnScope ["self", "atoms", "axioms"] ["self", "atoms", "axioms"] (defScope s_moI) := ⟨rfl, rfl, rfl, by decide +kernel, rfl, by decide +kernel, by decide +kernel⟩
abbrev s_some : Stmt := inClass (top 23) 1
theorem sc_some : FnScope ["self", "concept", "rules", "kind"] ["self", "concept", "rules"] (defScope s_some) := ⟨rfl, rfl, rfl, by decide +kernel, rfl, by decide +kernel, by decide +kernel⟩
abbrev s_exc : Stmt := inClass (top 23) 2
theorem sc_exc : FnScope ["self", "concept", "rules"] ["self", "concept", "rules"] (defScope s_exc) := ⟨rfl, rfl, rfl, by decide +kernel, rfl, by decide +kernel, by decide +kernel⟩
abbrev s_follow : Stmt := inClass (top 23) 3
theorem sc_follow : FnScope ["self", "concept", "rules", "other", "kind"] ["self", "concept", "rules", "other"] (defScope s_follow) := ⟨rfl, rfl, rfl, by decide +kernel, rfl, by decide +kernel, by decide +kernel⟩
abbrev s_next : Stmt := inClass (top 23) 4
theorem sc_next : FnScope ["self", "rules", "rule"] ["self", "rules"] (defScope s_next) := ⟨rfl, rfl, rfl, by decide +kernel, rfl, by decide +kernel, by decide +kernel⟩
abbrev s_until : Stmt := top 24
theorem sc_until : FnScope ["models", "rules", "found", "later"] ["models", "rules"] (defScope s_until) := ⟨rfl, rfl, rfl, by decide +kernel, rfl, by decide +kernel, by decide +kernel⟩
abbrev s_raI : Stmt := inClass (top 25) 0
theorem sc_raI : FnScope ["self", "atoms", "axioms", "rules", "final", "left", "found", "gone", "rule"] ["self", "atoms", "axioms", "rules"] (defScope s_raI) := ⟨rfl, rfl, rfl, by decide +kernel, rfl, by decide +kernel, by decide +kernel⟩
abbrev s_rankOf : Stmt := inClass (top 25) 1
theorem sc_rankOf : FnScope ["self", "concept", "number", "rules"] ["self", "concept"] (defScope s_rankOf) := ⟨rfl, rfl, rfl, by decide +kernel, rfl, by decide +kernel, by decide +kernel⟩
abbrev s_rulesFor : Stmt := inClass (top 25) 2
theorem sc_rulesFor : FnScope ["self", "concept", "number"] ["self", "concept"] (defScope s_rulesFor) := ⟨rfl, rfl, rfl, by decide +kernel, rfl, by decide +kernel, by decide +kernel⟩
abbrev s_isNor : Stmt := inClass (top 25) 3
theorem sc_isNor : FnScope ["self", "concept", "other"] ["self", "concept", "other"] (defScope s_isNor) := ⟨rfl, rfl, rfl, by decide +kernel, rfl, by decide +kernel, by decide +kernel⟩
abbrev s_isAlw : Stmt := inClass (top 25) 4
theorem sc_isAlw : FnScope ["self", "concept", "other"] ["self", "concept", "other"] (defScope s_isAlw) := ⟨rfl, rfl, rfl, by decide +kernel, rfl, by decide +kernel, by decide +kernel⟩
abbrev s_manyR : Stmt := inClass (top 25) 5
theorem sc_manyR : FnScope ["self", "rule", "rules"] ["self", "rule"] (defScope s_manyR) := ⟨rfl, rfl, rfl, by decide +kernel, rfl, by decide +kernel, by decide +kernel⟩
abbrev s_reI : Stmt := inClass (top 34) 0
theorem sc_reI : FnScope ["self", "code"] ["self", "code"] (defScope s_reI) := ⟨rfl, rfl, rfl, by decide +kernel, rfl, by decide +kernel, by decide +kernel⟩
abbrev s_toldC : Stmt := top 35
theorem sc_toldC : FnScope ["numbers", "many"] ["numbers", "many"] (defScope s_toldC) := ⟨rfl, rfl, rfl, by decide +kernel, rfl, by decide +kernel, by decide +kernel⟩
abbrev s_seI : Stmt := inClass (top 36) 0
theorem sc_seI : FnScope ["self"] ["self"] (defScope s_seI) := ⟨rfl, rfl, rfl, by decide +kernel, rfl, by decide +kernel, by decide +kernel⟩
abbrev s_atWith : Stmt := inClass (top 36) 1
theorem sc_atWith : FnScope ["self", "more", "concepts", "one", "other", "found"] ["self", "more"] (defScope s_atWith) := ⟨rfl, rfl, rfl, by decide +kernel, rfl, by decide +kernel, by decide +kernel⟩
abbrev s_ranking : Stmt := inClass (top 36) 2
theorem sc_ranking : FnScope ["self", "more"] ["self", "more"] (defScope s_ranking) := ⟨rfl, rfl, rfl, by decide +kernel, rfl, by decide +kernel, by decide +kernel⟩
abbrev s_begins : Stmt := inClass (top 36) 3
theorem sc_begins : FnScope ["self"] ["self"] (defScope s_begins) := ⟨rfl, rfl, rfl, by decide +kernel, rfl, by decide +kernel, by decide +kernel⟩
abbrev s_line : Stmt := inClass (top 36) 4
theorem sc_line : FnScope ["self", "numbers", "one", "other"] ["self", "numbers"] (defScope s_line) := ⟨rfl, rfl, rfl, by decide +kernel, rfl, by decide +kernel, by decide +kernel⟩
abbrev s_rule : Stmt := inClass (top 36) 5
theorem sc_rule : FnScope ["self", "numbers", "one", "other"] ["self", "numbers"] (defScope s_rule) := ⟨rfl, rfl, rfl, by decide +kernel, rfl, by decide +kernel, by decide +kernel⟩
abbrev s_normally : Stmt := inClass (top 36) 6
theorem sc_normally : FnScope ["self", "numbers", "one", "other"] ["self", "numbers"] (defScope s_normally) := ⟨rfl, rfl, rfl, by decide +kernel, rfl, by decide +kernel, by decide +kernel⟩
abbrev s_always : Stmt := inClass (top 36) 7
theorem sc_always : FnScope ["self", "numbers", "one", "other"] ["self", "numbers"] (defScope s_always) := ⟨rfl, rfl, rfl, by decide +kernel, rfl, by decide +kernel, by decide +kernel⟩
abbrev s_rank : Stmt := inClass (top 36) 8
theorem sc_rank : FnScope ["self", "numbers", "concept", "ranking"] ["self", "numbers"] (defScope s_rank) := ⟨rfl, rfl, rfl, by decide +kernel, rfl, by decide +kernel, by decide +kernel⟩
abbrev s_toldR : Stmt := inClass (top 36) 9
theorem sc_toldR : FnScope ["self", "ranking", "rule"] ["self"] (defScope s_toldR) := ⟨rfl, rfl, rfl, by decide +kernel, rfl, by decide +kernel, by decide +kernel⟩
abbrev s_drop : Stmt := inClass (top 36) 10
theorem sc_drop : FnScope ["self", "index"] ["self", "index"] (defScope s_drop) := ⟨rfl, rfl, rfl, by decide +kernel, rfl, by decide +kernel, by decide +kernel⟩
abbrev s_asked : Stmt := top 46
theorem sc_asked : FnScope ["service", "call", "numbers"] ["service", "call", "numbers"] (defScope s_asked) := ⟨rfl, rfl, rfl, by decide +kernel, rfl, by decide +kernel, by decide +kernel⟩
abbrev s_answer : Stmt := top 47
theorem sc_answer : FnScope ["service", "call", "numbers", "e"] ["service", "call", "numbers"] (defScope s_answer) := ⟨rfl, rfl, rfl, by decide +kernel, rfl, by decide +kernel, by decide +kernel⟩
abbrev s_numBh : Stmt := top 48
theorem sc_numBh : FnScope ["calls", "at", "begin", "many"] ["calls", "at"] (defScope s_numBh) := ⟨rfl, rfl, rfl, by decide +kernel, rfl, by decide +kernel, by decide +kernel⟩
abbrev s_answers : Stmt := top 49
theorem sc_answers : FnScope ["calls", "service", "found", "at", "call", "numbers", "told"] ["calls"] (defScope s_answers) := ⟨rfl, rfl, rfl, by decide +kernel, rfl, by decide +kernel, by decide +kernel⟩
/-- what the top has written -/
structure Txt (K : PySem.W.Frag) (mg : Str → Option Value) where
  k_EVERYTHING : ∃ t, mg "EVERYTHING" = some (.int (0) t)
  k_NOTHING : ∃ t, mg "NOTHING" = some (.int (1) t)
  k_NAMED : ∃ t, mg "NAMED" = some (.int (2) t)
  k_BOTH : ∃ t, mg "BOTH" = some (.int (3) t)
  k_EITHER : ∃ t, mg "EITHER" = some (.int (4) t)
  k_NOT : ∃ t, mg "NOT" = some (.int (5) t)
  k_SOME : ∃ t, mg "SOME" = some (.int (6) t)
  k_ALL : ∃ t, mg "ALL" = some (.int (7) t)
  k_NAMES : ∃ t, mg "NAMES" = some (.int (4) t)
  k_ROLES : ∃ t, mg "ROLES" = some (.int (2) t)
  k_NO_CONCEPTS : ∃ t, mg "NO_CONCEPTS" = some (.int (-1) t)
  k_NO_RULE : ∃ t, mg "NO_RULE" = some (.int (-2) t)
  k_EQUAL_RULE : ∃ t, mg "EQUAL_RULE" = some (.int (-4) t)
  k_TOO_MANY : ∃ t, mg "TOO_MANY" = some (.int (-7) t)
  k_MOST_AXIOMS : ∃ t, mg "MOST_AXIOMS" = some (.int (3) t)
  k_MOST_RULES : ∃ t, mg "MOST_RULES" = some (.int (4) t)
  k_MOST_ATOMS : ∃ t, mg "MOST_ATOMS" = some (.int (4) t)
  k_BEGINS : ∃ t, mg "BEGINS" = some (.int (0) t)
  k_LINE : ∃ t, mg "LINE" = some (.int (1) t)
  k_RULE : ∃ t, mg "RULE" = some (.int (2) t)
  k_NORMALLY : ∃ t, mg "NORMALLY" = some (.int (3) t)
  k_ALWAYS : ∃ t, mg "ALWAYS" = some (.int (4) t)
  k_RANK : ∃ t, mg "RANK" = some (.int (5) t)
  k_DROP : ∃ t, mg "DROP" = some (.int (7) t)
  z_len : mg "len" = none
  z_list : mg "list" = none
  z_all : mg "all" = none
  z_any : mg "any" = none
  z_zip : mg "zip" = none
  z_range : mg "range" = none
  z_enumerate : mg "enumerate" = none
  z_int : mg "int" = none
  z_ValueError : mg "ValueError" = none
  none_ : Addr
  g_NONE : mg "NONE" = some (.ref none_)
  t_NONE : ∀ H, SqT K H none_ [.int 1]
  with_ : Addr
  g_WITH : mg "WITH_LIST" = some (.ref with_)
  t_WITH : ∀ H, SqT K H with_ [.int 1, .int 2, .int 3, .int 4, .int 5]
  c_Atoms : Addr
  cl_Atoms : Cls K c_Atoms
  gc_Atoms : mg "Atoms" = some (.ref c_Atoms)
  kc_Atoms : PySem.W.keepIn K (.ref c_Atoms) = true
  na_Atoms_own : NoAttr K c_Atoms "own"
  c_Models : Addr
  cl_Models : Cls K c_Models
  gc_Models : mg "Models" = some (.ref c_Models)
  kc_Models : PySem.W.keepIn K (.ref c_Models) = true
  na_Models_atoms : NoAttr K c_Models "atoms"
  na_Models_kinds : NoAttr K c_Models "kinds"
  c_Ranking : Addr
  cl_Ranking : Cls K c_Ranking
  gc_Ranking : mg "Ranking" = some (.ref c_Ranking)
  kc_Ranking : PySem.W.keepIn K (.ref c_Ranking) = true
  na_Ranking_models : NoAttr K c_Ranking "models"
  na_Ranking_ranks : NoAttr K c_Ranking "ranks"
  c_Service : Addr
  cl_Service : Cls K c_Service
  gc_Service : mg "Service" = some (.ref c_Service)
  kc_Service : PySem.W.keepIn K (.ref c_Service) = true
  na_Service_axioms : NoAttr K c_Service "axioms"
  na_Service_rules : NoAttr K c_Service "rules"
  ne_AM : c_Atoms ≠ c_Models
  ne_AR : c_Ranking ≠ c_Atoms
  ne_MR : c_Ranking ≠ c_Models
  c_NoC : Addr
  xN : PySem.W.excIn K c_NoC [.type "ValueError", .type "Exception", .type "BaseException", .type "object"] "ValueError.__new__" = true
  gN : mg "NoConcept" = some (.ref c_NoC)
  kN : PySem.W.keepIn K (.ref c_NoC) = true
  bN : PySem.W.subIn K (.ref c_NoC) (.type "BaseException") = some true
  tN : PySem.W.typeIn K (.ref c_NoC) = some (.type "type")
  eN : PySem.W.exmOne K (.ref c_NoC) (.ref c_NoC) = some true
  c_Ref : Addr
  xR : OexC K c_Ref
  fR : XfC K c_Ref
  nR : PySem.W.findIn K (.ref c_Ref) "code" = some none
  gR : mg "Refused" = some (.ref c_Ref)
  tR : PySem.W.typeIn K (.ref c_Ref) = some (.type "type")
  eR : PySem.W.exmOne K (.ref c_Ref) (.ref c_Ref) = some true
  vV : PySem.W.findCls K (.type "ValueError") (.type "type") "__init__" = some (.val (.builtin "ValueError.__init__"))
  a_numAt : Addr
  d_numAt : FuncData
  f_numAt : Fun K "number_at" "number_at" s_numAt a_numAt d_numAt
  b_numAt : Binds K d_numAt ["numbers", "at"] []
  g_numAt : mg "number_at" = some (.ref a_numAt)
  a_numBe : Addr
  d_numBe : FuncData
  f_numBe : Fun K "number_below" "number_below" s_numBe a_numBe d_numBe
  b_numBe : Binds K d_numBe ["numbers", "at", "limit"] []
  g_numBe : mg "number_below" = some (.ref a_numBe)
  a_rdC : Addr
  d_rdC : FuncData
  f_rdC : Fun K "read_concept" "read_concept" s_rdC a_rdC d_rdC
  b_rdC : Binds K d_rdC ["numbers", "at"] []
  g_rdC : mg "read_concept" = some (.ref a_rdC)
  a_rdCs : Addr
  d_rdCs : FuncData
  f_rdCs : Fun K "read_concepts" "read_concepts" s_rdCs a_rdCs d_rdCs
  b_rdCs : Binds K d_rdCs ["numbers", "many"] []
  g_rdCs : mg "read_concepts" = some (.ref a_rdCs)
  a_isAt : Addr
  d_isAt : FuncData
  f_isAt : Fun K "is_atom" "is_atom" s_isAt a_isAt d_isAt
  b_isAt : Binds K d_isAt ["concept"] []
  g_isAt : mg "is_atom" = some (.ref a_isAt)
  a_parts : Addr
  d_parts : FuncData
  f_parts : Fun K "parts_of" "parts_of" s_parts a_parts d_parts
  b_parts : Binds K d_parts ["concept"] []
  g_parts : mg "parts_of" = some (.ref a_parts)
  a_allAt : Addr
  d_allAt : FuncData
  f_allAt : Fun K "all_atoms" "all_atoms" s_allAt a_allAt d_allAt
  b_allAt : Binds K d_allAt ["concepts"] []
  g_allAt : mg "all_atoms" = some (.ref a_allAt)
  a_atI : Addr
  d_atI : FuncData
  f_atI : Fun K "__init__" "Atoms.__init__" s_atI a_atI d_atI
  b_atI : Binds K d_atI ["self", "own"] []
  m_atI : Mk K c_Atoms a_atI
  a_has : Addr
  d_has : FuncData
  f_has : Fun K "has" "Atoms.has" s_has a_has d_has
  b_has : Binds K d_has ["self", "kind", "concept"] []
  m_has : Meth K c_Atoms "has" a_has
  a_sat : Addr
  d_sat : FuncData
  f_sat : Fun K "satisfies" "Atoms.satisfies" s_sat a_sat d_sat
  b_sat : Binds K d_sat ["self", "kind", "pairs"] []
  m_sat : Meth K c_Atoms "satisfies" a_sat
  a_every : Addr
  d_every : FuncData
  f_every : Fun K "every" "Atoms.every" s_every a_every d_every
  b_every : Binds K d_every ["self"] []
  m_every : Meth K c_Atoms "every" a_every
  a_mayRel : Addr
  d_mayRel : FuncData
  f_mayRel : Fun K "may_relate" "Atoms.may_relate" s_mayRel a_mayRel d_mayRel
  b_mayRel : Binds K d_mayRel ["self", "kind", "role", "other"] []
  m_mayRel : Meth K c_Atoms "may_relate" a_mayRel
  a_shown : Addr
  d_shown : FuncData
  f_shown : Fun K "is_shown" "Atoms.is_shown" s_shown a_shown d_shown
  b_shown : Binds K d_shown ["self", "kind", "atom", "is_so", "others"] []
  m_shown : Meth K c_Atoms "is_shown" a_shown
  a_poss : Addr
  d_poss : FuncData
  f_poss : Fun K "is_possible" "Atoms.is_possible" s_poss a_poss d_poss
  b_poss : Binds K d_poss ["self", "kind", "others"] []
  m_poss : Meth K c_Atoms "is_possible" a_poss
  a_possib : Addr
  d_possib : FuncData
  f_possib : Fun K "possible" "Atoms.possible" s_possib a_possib d_possib
  b_possib : Binds K d_possib ["self", "axioms"] []
  m_possib : Meth K c_Atoms "possible" a_possib
  a_moI : Addr
  d_moI : FuncData
  f_moI : Fun K "__init__" "Models.__init__" s_moI a_moI d_moI
  b_moI : Binds K d_moI ["self", "atoms", "axioms"] []
  m_moI : Mk K c_Models a_moI
  a_some : Addr
  d_some : FuncData
  f_some : Fun K "some_have" "Models.some_have" s_some a_some d_some
  b_some : Binds K d_some ["self", "concept", "rules"] []
  m_some : Meth K c_Models "some_have" a_some
  a_exc : Addr
  d_exc : FuncData
  f_exc : Fun K "is_exceptional" "Models.is_exceptional" s_exc a_exc d_exc
  b_exc : Binds K d_exc ["self", "concept", "rules"] []
  m_exc : Meth K c_Models "is_exceptional" a_exc
  a_follow : Addr
  d_follow : FuncData
  f_follow : Fun K "does_follow" "Models.does_follow" s_follow a_follow d_follow
  b_follow : Binds K d_follow ["self", "concept", "rules", "other"] []
  m_follow : Meth K c_Models "does_follow" a_follow
  a_next : Addr
  d_next : FuncData
  f_next : Fun K "next_rank" "Models.next_rank" s_next a_next d_next
  b_next : Binds K d_next ["self", "rules"] []
  m_next : Meth K c_Models "next_rank" a_next
  a_until : Addr
  d_until : FuncData
  f_until : Fun K "ranks_until" "ranks_until" s_until a_until d_until
  b_until : Binds K d_until ["models", "rules"] []
  g_until : mg "ranks_until" = some (.ref a_until)
  a_raI : Addr
  d_raI : FuncData
  f_raI : Fun K "__init__" "Ranking.__init__" s_raI a_raI d_raI
  b_raI : Binds K d_raI ["self", "atoms", "axioms", "rules"] []
  m_raI : Mk K c_Ranking a_raI
  a_rankOf : Addr
  d_rankOf : FuncData
  f_rankOf : Fun K "rank_of" "Ranking.rank_of" s_rankOf a_rankOf d_rankOf
  b_rankOf : Binds K d_rankOf ["self", "concept"] []
  m_rankOf : Meth K c_Ranking "rank_of" a_rankOf
  a_rulesFor : Addr
  d_rulesFor : FuncData
  f_rulesFor : Fun K "rules_for" "Ranking.rules_for" s_rulesFor a_rulesFor d_rulesFor
  b_rulesFor : Binds K d_rulesFor ["self", "concept"] []
  m_rulesFor : Meth K c_Ranking "rules_for" a_rulesFor
  a_isNor : Addr
  d_isNor : FuncData
  f_isNor : Fun K "is_normal" "Ranking.is_normal" s_isNor a_isNor d_isNor
  b_isNor : Binds K d_isNor ["self", "concept", "other"] []
  m_isNor : Meth K c_Ranking "is_normal" a_isNor
  a_isAlw : Addr
  d_isAlw : FuncData
  f_isAlw : Fun K "is_always" "Ranking.is_always" s_isAlw a_isAlw d_isAlw
  b_isAlw : Binds K d_isAlw ["self", "concept", "other"] []
  m_isAlw : Meth K c_Ranking "is_always" a_isAlw
  a_manyR : Addr
  d_manyR : FuncData
  f_manyR : Fun K "many_ranks" "Ranking.many_ranks" s_manyR a_manyR d_manyR
  b_manyR : Binds K d_manyR ["self", "rule"] []
  m_manyR : Meth K c_Ranking "many_ranks" a_manyR
  a_reI : Addr
  d_reI : FuncData
  f_reI : Fun K "__init__" "Refused.__init__" s_reI a_reI d_reI
  b_reI : Binds K d_reI ["self", "code"] []
  iR : PySem.W.findIn K (.ref c_Ref) "__init__" = some (some (.ref a_reI))
  yR : PySem.W.typeIn K (.ref a_reI) = some (.type "function")
  a_toldC : Addr
  d_toldC : FuncData
  f_toldC : Fun K "told_concepts" "told_concepts" s_toldC a_toldC d_toldC
  b_toldC : Binds K d_toldC ["numbers", "many"] []
  g_toldC : mg "told_concepts" = some (.ref a_toldC)
  a_seI : Addr
  d_seI : FuncData
  f_seI : Fun K "__init__" "Service.__init__" s_seI a_seI d_seI
  b_seI : Binds K d_seI ["self"] []
  m_seI : Mk K c_Service a_seI
  a_atWith : Addr
  d_atWith : FuncData
  f_atWith : Fun K "atoms_with" "Service.atoms_with" s_atWith a_atWith d_atWith
  b_atWith : Binds K d_atWith ["self", "more"] []
  m_atWith : Meth K c_Service "atoms_with" a_atWith
  a_ranking : Addr
  d_ranking : FuncData
  f_ranking : Fun K "ranking" "Service.ranking" s_ranking a_ranking d_ranking
  b_ranking : Binds K d_ranking ["self", "more"] []
  m_ranking : Meth K c_Service "ranking" a_ranking
  a_begins : Addr
  d_begins : FuncData
  f_begins : Fun K "begins" "Service.begins" s_begins a_begins d_begins
  b_begins : Binds K d_begins ["self"] []
  m_begins : Meth K c_Service "begins" a_begins
  a_line : Addr
  d_line : FuncData
  f_line : Fun K "line" "Service.line" s_line a_line d_line
  b_line : Binds K d_line ["self", "numbers"] []
  m_line : Meth K c_Service "line" a_line
  a_rule : Addr
  d_rule : FuncData
  f_rule : Fun K "rule" "Service.rule" s_rule a_rule d_rule
  b_rule : Binds K d_rule ["self", "numbers"] []
  m_rule : Meth K c_Service "rule" a_rule
  a_normally : Addr
  d_normally : FuncData
  f_normally : Fun K "normally" "Service.normally" s_normally a_normally d_normally
  b_normally : Binds K d_normally ["self", "numbers"] []
  m_normally : Meth K c_Service "normally" a_normally
  a_always : Addr
  d_always : FuncData
  f_always : Fun K "always" "Service.always" s_always a_always d_always
  b_always : Binds K d_always ["self", "numbers"] []
  m_always : Meth K c_Service "always" a_always
  a_rank : Addr
  d_rank : FuncData
  f_rank : Fun K "rank" "Service.rank" s_rank a_rank d_rank
  b_rank : Binds K d_rank ["self", "numbers"] []
  m_rank : Meth K c_Service "rank" a_rank
  a_toldR : Addr
  d_toldR : FuncData
  f_toldR : Fun K "told_ranks" "Service.told_ranks" s_toldR a_toldR d_toldR
  b_toldR : Binds K d_toldR ["self"] []
  m_toldR : Meth K c_Service "told_ranks" a_toldR
  a_drop : Addr
  d_drop : FuncData
  f_drop : Fun K "drop" "Service.drop" s_drop a_drop d_drop
  b_drop : Binds K d_drop ["self", "index"] []
  m_drop : Meth K c_Service "drop" a_drop
  a_asked : Addr
  d_asked : FuncData
  f_asked : Fun K "asked" "asked" s_asked a_asked d_asked
  b_asked : Binds K d_asked ["service", "call", "numbers"] []
  g_asked : mg "asked" = some (.ref a_asked)
  a_answer : Addr
  d_answer : FuncData
  f_answer : Fun K "answer" "answer" s_answer a_answer d_answer
  b_answer : Binds K d_answer ["service", "call", "numbers"] []
  g_answer : mg "answer" = some (.ref a_answer)
  a_numBh : Addr
  d_numBh : FuncData
  f_numBh : Fun K "numbers_behind" "numbers_behind" s_numBh a_numBh d_numBh
  b_numBh : Binds K d_numBh ["calls", "at"] []
  g_numBh : mg "numbers_behind" = some (.ref a_numBh)
  a_answers : Addr
  d_answers : FuncData
  f_answers : Fun K "answers" "answers" s_answers a_answers d_answers
  b_answers : Binds K d_answers ["calls"] []
  g_answers : mg "answers" = some (.ref a_answers)
end Ex
/-! Concepts are read. -/
namespace Ex
open PySem PySem.Spec PyProof.Rows L2
open Oc (C)

/-! ### plain: what is read -/
theorem read_zero (l : List Nat) : Oc.read 0 l = none := rfl
theorem read_nil (n : Nat) : Oc.read n [] = none := by cases n <;> rfl
theorem read_0 (n : Nat) (r : List Nat) : Oc.read (n + 1) (0 :: r) = some (.top, r) := rfl
theorem read_1 (n : Nat) (r : List Nat) : Oc.read (n + 1) (1 :: r) = some (.bot, r) := rfl
theorem read_2n (n : Nat) : Oc.read (n + 1) [2] = none := rfl
theorem read_2 (n a : Nat) (r : List Nat) : Oc.read (n + 1) (2 :: a :: r) = if a < 4 then some (.name a, r) else none := rfl
theorem read_3 (n : Nat) (r : List Nat) : Oc.read (n + 1) (3 :: r) = match Oc.read n r with
  | none => none
  | some x => (Oc.read n x.2).map fun y => (.and x.1 y.1, y.2) := rfl
theorem read_4 (n : Nat) (r : List Nat) : Oc.read (n + 1) (4 :: r) = match Oc.read n r with
  | none => none
  | some x => (Oc.read n x.2).map fun y => (.or x.1 y.1, y.2) := rfl
theorem read_5 (n : Nat) (r : List Nat) : Oc.read (n + 1) (5 :: r) = (Oc.read n r).map fun x => (.not x.1, x.2) := rfl
theorem read_6n (n : Nat) : Oc.read (n + 1) [6] = none := rfl
theorem read_6 (n k : Nat) (r : List Nat) : Oc.read (n + 1) (6 :: k :: r) = if k < 2 then (Oc.read n r).map fun x => (.some k x.1, x.2) else none := rfl
theorem read_7n (n : Nat) : Oc.read (n + 1) [7] = none := rfl
theorem read_7 (n k : Nat) (r : List Nat) : Oc.read (n + 1) (7 :: k :: r) = if k < 2 then (Oc.read n r).map fun x => (.all k x.1, x.2) else none := rfl
theorem read_big (n w : Nat) (r : List Nat) : Oc.read (n + 1) ((w + 8) :: r) = none := rfl
/-- how much is read -/
theorem read_sz : ∀ (n : Nat) (l : List Nat) (c : C) (r : List Nat), Oc.read n l = some (c, r) → r = l.drop (sz c) ∧ sz c ≤ l.length
  | 0, l, c, r, h => by cases h
  | n + 1, [], c, r, h => by cases h
  | n + 1, 0 :: l, c, r, h => by
    obtain ⟨rfl, rfl⟩ := Prod.mk.inj (Option.some.inj h)
    exact ⟨rfl, by simp [sz]⟩
  | n + 1, 1 :: l, c, r, h => by
    obtain ⟨rfl, rfl⟩ := Prod.mk.inj (Option.some.inj h)
    exact ⟨rfl, by simp [sz]⟩
  | n + 1, [2], c, r, h => by cases h
  | n + 1, 2 :: a :: l, c, r, h => by
    rw [read_2] at h
    by_cases ha : a < 4
    · rw [if_pos ha] at h
      obtain ⟨rfl, rfl⟩ := Prod.mk.inj (Option.some.inj h)
      exact ⟨rfl, by simp [sz]⟩
    · rw [if_neg ha] at h; cases h
  | n + 1, 3 :: l, c, r, h => by
    rw [read_3] at h
    cases e : Oc.read n l with
    | none => rw [e] at h; cases h
    | some x =>
      rw [e] at h
      have h' : (Oc.read n x.2).map (fun y => (C.and x.1 y.1, y.2)) = some (c, r) := h
      cases e2 : Oc.read n x.2 with
      | none => rw [e2] at h'; cases h'
      | some y =>
        rw [e2] at h'
        obtain ⟨rfl, rfl⟩ := Prod.mk.inj (Option.some.inj h')
        obtain ⟨q1, q2⟩ := read_sz n l x.1 x.2 e
        obtain ⟨q3, q4⟩ := read_sz n x.2 y.1 y.2 e2
        rw [q1] at q3 q4
        rw [List.length_drop] at q4
        rw [List.drop_drop] at q3
        have k : sz (.and x.1 y.1) = (sz x.1 + sz y.1) + 1 := by simp only [sz]; omega
        rw [k, List.drop_succ_cons, List.length_cons]
        exact ⟨q3, by omega⟩
  | n + 1, 4 :: l, c, r, h => by
    rw [read_4] at h
    cases e : Oc.read n l with
    | none => rw [e] at h; cases h
    | some x =>
      rw [e] at h
      have h' : (Oc.read n x.2).map (fun y => (C.or x.1 y.1, y.2)) = some (c, r) := h
      cases e2 : Oc.read n x.2 with
      | none => rw [e2] at h'; cases h'
      | some y =>
        rw [e2] at h'
        obtain ⟨rfl, rfl⟩ := Prod.mk.inj (Option.some.inj h')
        obtain ⟨q1, q2⟩ := read_sz n l x.1 x.2 e
        obtain ⟨q3, q4⟩ := read_sz n x.2 y.1 y.2 e2
        rw [q1] at q3 q4
        rw [List.length_drop] at q4
        rw [List.drop_drop] at q3
        have k : sz (.or x.1 y.1) = (sz x.1 + sz y.1) + 1 := by simp only [sz]; omega
        rw [k, List.drop_succ_cons, List.length_cons]
        exact ⟨q3, by omega⟩
  | n + 1, 5 :: l, c, r, h => by
    rw [read_5] at h
    cases e : Oc.read n l with
    | none => rw [e] at h; cases h
    | some x =>
      rw [e] at h
      obtain ⟨rfl, rfl⟩ := Prod.mk.inj (Option.some.inj h)
      obtain ⟨q1, q2⟩ := read_sz n l x.1 x.2 e
      have k : sz (.not x.1) = sz x.1 + 1 := by simp only [sz]; omega
      rw [k, List.drop_succ_cons, List.length_cons]
      exact ⟨q1, by omega⟩
  | n + 1, [6], c, r, h => by cases h
  | n + 1, 6 :: k :: l, c, r, h => by
    rw [read_6] at h
    by_cases hk : k < 2
    · rw [if_pos hk] at h
      cases e : Oc.read n l with
      | none => rw [e] at h; cases h
      | some x =>
        rw [e] at h
        obtain ⟨rfl, rfl⟩ := Prod.mk.inj (Option.some.inj h)
        obtain ⟨q1, q2⟩ := read_sz n l x.1 x.2 e
        have k : sz (.some k x.1) = sz x.1 + 1 + 1 := by simp only [sz]; omega
        rw [k, List.drop_succ_cons, List.drop_succ_cons, List.length_cons, List.length_cons]
        exact ⟨q1, by omega⟩
    · rw [if_neg hk] at h; cases h
  | n + 1, [7], c, r, h => by cases h
  | n + 1, 7 :: k :: l, c, r, h => by
    rw [read_7] at h
    by_cases hk : k < 2
    · rw [if_pos hk] at h
      cases e : Oc.read n l with
      | none => rw [e] at h; cases h
      | some x =>
        rw [e] at h
        obtain ⟨rfl, rfl⟩ := Prod.mk.inj (Option.some.inj h)
        obtain ⟨q1, q2⟩ := read_sz n l x.1 x.2 e
        have k : sz (.all k x.1) = sz x.1 + 1 + 1 := by simp only [sz]; omega
        rw [k, List.drop_succ_cons, List.drop_succ_cons, List.length_cons, List.length_cons]
        exact ⟨q1, by omega⟩
    · rw [if_neg hk] at h; cases h
  | n + 1, (w + 8) :: l, c, r, h => by cases h

/-! ### the walk -/
section
variable {P : Program} {w : World} {K : PySem.W.Frag} {mg : Str → Option Value} {base : Heap}
/-- as Fun.okX, where what is raised has no context -/
theorem okN {x qual : Str} {st : Stmt} {f : Addr} {fd : FuncData} {N ps : List Str} {k : Nat} {sp : Sp} (F : Fun K x qual st f fd) (S : FnScope N ps (defScope st)) (len : ∀ vs H Q E, sp vs H Q E → vs.length = ps.length)
    (hb : ∀ (cdv : Value) (A : Around) (outer : List Env) (s : Shared) (H : Hp) (vs : List V) (Q : VK) (E : XK), Room k (A.deeper (envOfC qual (defScope st) s.heap.objs.size f cdv)) → sp vs H Q E →
      ∃ t, PSs (cxOf (L2N.CX P w) P w K mg base N qual (defScope st) f cdv A outer s H E) (defBody st) t ∧ t { nx := fun _ H' => Q .non H', rt := Q } (start N vs) H) : FnOk P w K mg base (L2N.CX P w) (k + 1) f fd ps sp := by
  obtain ⟨oc, od, kV, doc, pm, an, cdv, ct, osl, rfl, lk, hcd⟩ := F.ex
  exact fn_of lk hcd S len fun A outer s H vs Q E hr h => hb cdv A outer s H vs Q E hr h
end
/-- a whole number of the module -/
theorem gI {X : Cx} {x : Str} {i : Int} {p : Pos} (h : ∃ t, X.mg x = some (.int i t)) (hg : Gl X x := by rfl) (hd : (x == ("__debug__" : Str)) = false := by decide) : PE X (.Name x p) (tC (.int i)) := by
  obtain ⟨t, e⟩ := h
  exact pe_glob hg e ⟨t, rfl⟩ hd
section
variable {P : Program} {w : World} {K : PySem.W.Frag} {mg : Str → Option Value} {base : Heap}
def spNumAt (K : PySem.W.Frag) (CN : Addr) : Sp := fun vs H Q E => ∃ (a : Addr) (ns : List Int) (i : Nat), vs = [.ref a, .int i] ∧ SqL K H a (ns.map V.int) ∧
  (∀ x, ns[i]? = some x → Q (.int x) H) ∧ (ns[i]? = none → E (.ref CN) none H)
def spNumBe (K : PySem.W.Frag) (CN : Addr) : Sp := fun vs H Q E => ∃ (a : Addr) (ns : List Int) (i : Nat) (m : Int), vs = [.ref a, .int i, .int m] ∧ SqL K H a (ns.map V.int) ∧
  (∀ x, ns[i]? = some x → x < m → Q (.int x) H) ∧ (∀ x, ns[i]? = some x → ¬ x < m → E (.ref CN) none H) ∧ (ns[i]? = none → E (.ref CN) none H)
theorem ints_at {ns : List Int} {i : Nat} {x : Int} (h : ns[i]? = some x) : (ns.map V.int)[i]? = some (.int x) := by rw [List.getElem?_map, h]; rfl
theorem ok_numAt (T : Txt K mg) : FnOk P w K mg base (L2N.CX P w) 2 T.a_numAt T.d_numAt ["numbers", "at"] (spNumAt K T.c_NoC) := by
  refine okN T.f_numAt sc_numAt (fun vs H Q E h => ?_) (fun cdv A outer s H vs Q E hr h => ?_)
  · obtain ⟨a, ns, i, rfl, _⟩ := h
    rfl
  obtain ⟨a, ns, i, rfl, hS, hq, he⟩ := h
  refine ⟨_, pss_cons (ps_if (pt_cmpR op_ge (pv 1) (pe_callB call_len_seq rfl T.z_len PySem.boot_len (pa_cons (pv 0) pa_nil)) (nomark _))
      (pss_one (L2N.ps_raise rfl (L2N.takes_of rfl rfl rfl rfl) (L2N.pmk_own PySem.F.excBase_ValueError T.xN T.gN T.kN (raises_own T.bN T.tN) (by exact rfl)))) pss_nil)
    (pss_one (ps_ret (pe_ix ix_list (pv 0) (pv 1) (fun _ _ => rfl)))), ?_⟩
  refine ⟨_, rfl, _, rfl, a, _, rfl, .inl hS, _, _, rfl, rfl, _, rfl, ?_⟩
  refine ite2 (fun c => ?_) (fun c => ?_)
  · have c' : (((ns.map V.int).length : Nat) : Int) ≤ (i : Int) := of_decide_eq_true c
    rw [List.length_map] at c'
    exact he (List.getElem?_eq_none_iff.mpr (by omega))
  · have c' : ¬ (((ns.map V.int).length : Nat) : Int) ≤ (i : Int) := of_decide_eq_false (Bool.eq_false_iff.mpr c)
    rw [List.length_map] at c'
    have hi : i < ns.length := by omega
    have e := List.getElem?_eq_getElem hi
    exact ⟨_, rfl, _, rfl, a, _, _, _, rfl, rfl, hS, atI_nat (ints_at e), hq _ e⟩
theorem ok_numBe (T : Txt K mg) : FnOk P w K mg base (L2N.CX P w) 3 T.a_numBe T.d_numBe ["numbers", "at", "limit"] (spNumBe K T.c_NoC) := by
  have G := ok_numAt (P := P) (w := w) (base := base) T
  refine okN T.f_numBe sc_numBe (fun vs H Q E h => ?_) (fun cdv A outer s H vs Q E hr h => ?_)
  · obtain ⟨a, ns, i, m, rfl, _⟩ := h
    rfl
  obtain ⟨a, ns, i, m, rfl, hS, hq, he, hn⟩ := h
  have tk := L2N.takes_of (X := cxOf (L2N.CX P w) P w K mg base ["numbers", "at", "limit", "found"] "number_below" (defScope s_numBe) T.a_numBe cdv A outer s H E) rfl rfl rfl rfl
  refine ⟨_, pss_cons (ps_set (i := 3) sc_numBe.nd rfl (Or.inl rfl) (pe_callS G hr rfl T.g_numAt T.f_numAt.kp T.b_numAt (fun σ => L2N.passAt tk σ) (by exact (pa_cons (pv 0) (pa_cons (pv 1) pa_nil)))))
    (pss_cons (ps_if (pt_cmpR op_ge (pv 3) (pv 2) (nomark _)) (pss_one (L2N.ps_raise rfl tk (L2N.pmk_own PySem.F.excBase_ValueError T.xN T.gN T.kN (raises_own T.bN T.tN) (by exact rfl)))) pss_nil)
    (pss_one (ps_ret (pv 3)))), ?_⟩
  refine ⟨_, rfl, _, rfl, a, ns, i, rfl, hS, fun x hx => ?_, fun hx => hn hx⟩
  refine ⟨_, rfl, _, rfl, _, _, rfl, rfl, _, rfl, ?_⟩
  refine ite2 (fun c => ?_) (fun c => ?_)
  · exact he x hx (Int.not_lt.mpr (of_decide_eq_true c))
  · exact ⟨_, rfl, hq x hx (Int.not_le.mp (of_decide_eq_false (Bool.eq_false_iff.mpr c)))⟩
end
end Ex
/-! Concepts are read: the walk. -/
namespace Ex
open PySem PySem.Spec PyProof.Rows L2
open Oc (C)
section
variable {P : Program} {w : World} {K : PySem.W.Frag} {mg : Str → Option Value} {base : Heap}
def nats (l : List Int) : List Nat := l.map Int.toNat
/-- read_concept with n turns left -/
def spRd (K : PySem.W.Frag) (CN : Addr) (n : Nat) : Sp := fun vs H Q E => ∃ (a : Addr) (ns : List Int) (i : Nat), vs = [.ref a, .int i] ∧ SqL K H a (ns.map V.int) ∧ (∀ x ∈ ns, 0 ≤ x) ∧ i ≤ ns.length ∧ ns.length < i + n ∧
  (Oc.read n ((nats ns).drop i) = none → ∀ H', Same H H' → E (.ref CN) none H') ∧
  (∀ c r, Oc.read n ((nats ns).drop i) = some (c, r) → ∀ (H' : Hp) (t : Addr) (v : V), Same H H' → H' t = some (.tup [v, .int ((i + sz c : Nat) : Int)]) → CA K H' c v → Q (.ref t) H')
theorem drop_at {ns : List Int} {i : Nat} {x : Int} (h : ns[i]? = some x) : (nats ns).drop i = x.toNat :: (nats ns).drop (i + 1) := by
  obtain ⟨hi, e⟩ := List.getElem?_eq_some_iff.mp h
  have hi' : i < (nats ns).length := by unfold nats; rw [List.length_map]; exact hi
  have q : (nats ns)[i]? = some x.toNat := by
    show (ns.map Int.toNat)[i]? = _
    rw [List.getElem?_map, h]
    rfl
  obtain ⟨h2, q2⟩ := List.getElem?_eq_some_iff.mp q
  rw [List.drop_eq_getElem_cons h2, q2]
theorem drop_end {ns : List Int} {i : Nat} (h : ns[i]? = none) : (nats ns).drop i = [] := by
  have hi := List.getElem?_eq_none_iff.mp h
  exact List.drop_eq_nil_of_le (by unfold nats; rw [List.length_map]; exact hi)
theorem nats_len (ns : List Int) : (nats ns).length = ns.length := List.length_map _
theorem int_beq {a w : Int} : (a == w) = decide (w = a) := by
  by_cases h : w = a
  · rw [decide_eq_true h, h]
    exact beq_self_eq_true a
  · rw [decide_eq_false h]
    exact beq_eq_false_iff_ne.mpr fun z => h z.symm
theorem ifne {x y : Int} {A B : Prop} (h : ¬ x = y) (hb : B) : if decide (V.int x = V.int y) = true then A else B := by
  rw [decide_eq_false fun z => h (V.int.inj z)]
  exact iteF hb
theorem in2 {w a b : Int} : inV (.int w) [.int a, .int b] = (decide (w = a) || decide (w = b)) := by
  show ((a == w) || ((b == w) || false)) = _
  rw [Bool.or_false]
  rw [int_beq, int_beq]
theorem ref_eq {a b : Addr} (h : a = b) : V.ref a = V.ref b := congrArg _ h
/-- an end that stands in whatever the heap has become -/
theorem small2 : 2 ≤ sizeLine := by decide
theorem small3 : 3 ≤ sizeLine := by decide
theorem small1 : 1 ≤ sizeLine := by decide
theorem ok_rdC (T : Txt K mg) : ∀ n : Nat, FnOk P w K mg base (L2N.CX P w) (n + 3) T.a_rdC T.d_rdC ["numbers", "at"] (spRd K T.c_NoC n)
  | 0 => by
    have no : ∀ vs H Q E, ¬ spRd K T.c_NoC 0 vs H Q E := fun vs H Q E h => by
      obtain ⟨a, ns, i, _, _, _, h1, h2, _⟩ := h
      omega
    exact ⟨fun vs H Q E h => absurd h (no vs H Q E), fun A outer s H args us vs Q E _ _ _ _ h => absurd h (no vs H Q E)⟩
  | n + 1 => by
    have IH := ok_rdC T n
    have GA := ok_numAt (P := P) (w := w) (base := base) T
    have GB := ok_numBe (P := P) (w := w) (base := base) T
    refine okN T.f_rdC sc_rdC (fun vs H Q E h => ?_) (fun cdv A outer s H vs Q E hr h => ?_)
    · obtain ⟨a, ns, i, rfl, _⟩ := h
      rfl
    obtain ⟨a, ns, i, rfl, hS, hpos, hi, hfu, hnone, hsome⟩ := h
    have tk := L2N.takes_of (X := cxOf (L2N.CX P w) P w K mg base ["numbers", "at", "word", "one", "behind", "other", "role"] "read_concept" (defScope s_rdC) T.a_rdC cdv A outer s H E) rfl rfl rfl rfl
    have hA : Room 2 _ := hr.mono (show 2 ≤ n + 3 by omega)
    have hB : Room 3 _ := hr.mono (show 3 ≤ n + 3 by omega)
    refine ⟨_, pss_cons (ps_set (i := 2) sc_rdC.nd rfl (Or.inl rfl) (pe_callS GA hA rfl T.g_numAt T.f_numAt.kp T.b_numAt (fun σ => L2N.passAt tk σ) (by exact (pa_cons (pv 0) (pa_cons (pv 1) pa_nil)))))
      -- if word in (EVERYTHING, NOTHING): return ((word,), at + 1)
      (pss_cons (ps_if (pt_cmpR op_in_seq (pv 2) (pe_tup (pa_cons (gI T.k_EVERYTHING) (pa_cons (gI T.k_NOTHING) pa_nil))) rfl)
        (pss_one (ps_ret (pe_tup (pa_cons (pe_tup (pa_cons (pv 2) pa_nil)) (pa_cons (pe_op op_add (pv 1) pe_int) pa_nil))))) pss_nil)
      -- if word == NAMED: return ((word, number_below(numbers, at + 1, NAMES)), at + 2)
      (pss_cons (ps_if (pt_cmpR op_eq (pv 2) (gI T.k_NAMED) (nomark _))
        (pss_one (ps_ret (pe_tup (pa_cons (pe_tup (pa_cons (pv 2) (pa_cons (pe_callS GB hB rfl T.g_numBe T.f_numBe.kp T.b_numBe (fun σ => L2N.passAt tk σ) (by exact (pa_cons (pv 0) (pa_cons (pe_op op_add (pv 1) pe_int) (pa_cons (gI T.k_NAMES) pa_nil))))) pa_nil)))
          (pa_cons (pe_op op_add (pv 1) pe_int) pa_nil))))) pss_nil)
      -- if word in (BOTH, EITHER): ..
      (pss_cons (ps_if (pt_cmpR op_in_seq (pv 2) (pe_tup (pa_cons (gI T.k_BOTH) (pa_cons (gI T.k_EITHER) pa_nil))) rfl)
        (pss_cons (ps_asg (pe_callS IH hr rfl T.g_rdC T.f_rdC.kp T.b_rdC (fun σ => L2N.passAt tk σ) (by exact (pa_cons (pv 0) (pa_cons (pe_op op_add (pv 1) pe_int) pa_nil))))
            (pg_tup rfl (pgs_cons (pg_name (i := 3) sc_rdC.nd rfl (Or.inl rfl)) (pgs_cons (pg_name (i := 4) sc_rdC.nd rfl (Or.inl rfl)) pgs_nil))))
        (pss_cons (ps_asg (pe_callS IH hr rfl T.g_rdC T.f_rdC.kp T.b_rdC (fun σ => L2N.passAt tk σ) (by exact (pa_cons (pv 0) (pa_cons (pv 4) pa_nil))))
            (pg_tup rfl (pgs_cons (pg_name (i := 5) sc_rdC.nd rfl (Or.inl rfl)) (pgs_cons (pg_name (i := 4) sc_rdC.nd rfl (Or.inl rfl)) pgs_nil))))
        (pss_one (ps_ret (pe_tup (pa_cons (pe_tup (pa_cons (pv 2) (pa_cons (pv 3) (pa_cons (pv 5) pa_nil)))) (pa_cons (pv 4) pa_nil))))))) pss_nil)
      -- if word == NOT: ..
      (pss_cons (ps_if (pt_cmpR op_eq (pv 2) (gI T.k_NOT) (nomark _))
        (pss_cons (ps_asg (pe_callS IH hr rfl T.g_rdC T.f_rdC.kp T.b_rdC (fun σ => L2N.passAt tk σ) (by exact (pa_cons (pv 0) (pa_cons (pe_op op_add (pv 1) pe_int) pa_nil))))
            (pg_tup rfl (pgs_cons (pg_name (i := 3) sc_rdC.nd rfl (Or.inl rfl)) (pgs_cons (pg_name (i := 4) sc_rdC.nd rfl (Or.inl rfl)) pgs_nil))))
        (pss_one (ps_ret (pe_tup (pa_cons (pe_tup (pa_cons (pv 2) (pa_cons (pv 3) pa_nil))) (pa_cons (pv 4) pa_nil)))))) pss_nil)
      -- if word in (SOME, ALL): ..
      (pss_cons (ps_if (pt_cmpR op_in_seq (pv 2) (pe_tup (pa_cons (gI T.k_SOME) (pa_cons (gI T.k_ALL) pa_nil))) rfl)
        (pss_cons (ps_set (i := 6) sc_rdC.nd rfl (Or.inl rfl) (pe_callS GB hB rfl T.g_numBe T.f_numBe.kp T.b_numBe (fun σ => L2N.passAt tk σ) (by exact (pa_cons (pv 0) (pa_cons (pe_op op_add (pv 1) pe_int) (pa_cons (gI T.k_ROLES) pa_nil))))))
        (pss_cons (ps_asg (pe_callS IH hr rfl T.g_rdC T.f_rdC.kp T.b_rdC (fun σ => L2N.passAt tk σ) (by exact (pa_cons (pv 0) (pa_cons (pe_op op_add (pv 1) pe_int) pa_nil))))
            (pg_tup rfl (pgs_cons (pg_name (i := 3) sc_rdC.nd rfl (Or.inl rfl)) (pgs_cons (pg_name (i := 4) sc_rdC.nd rfl (Or.inl rfl)) pgs_nil))))
        (pss_one (ps_ret (pe_tup (pa_cons (pe_tup (pa_cons (pv 2) (pa_cons (pv 6) (pa_cons (pv 3) pa_nil)))) (pa_cons (pv 4) pa_nil))))))) pss_nil)
      (pss_one (L2N.ps_raise rfl tk (L2N.pmk_own PySem.F.excBase_ValueError T.xN T.gN T.kN (raises_own T.bN T.tN) (by exact rfl))))))))), ?_⟩
    -- word
    refine ⟨_, rfl, _, rfl, a, ns, i, rfl, hS, fun x hx => ?_, fun hx => hnone (by rw [drop_end hx]; exact read_nil _) H (Same.refl H)⟩
    have hxp : 0 ≤ x := hpos x (List.mem_of_getElem? hx)
    have hil : i < ns.length := (List.getElem?_eq_some_iff.mp hx).1
    have hd := drop_at hx
    -- the tuple of the first test
    refine ⟨_, rfl, small2, fun p1 n1 => ⟨p1, _, rfl, .inr (SqT.of upd_same), rfl, rfl, _, rfl, ?_⟩⟩
    have s1 : Same H (upd H p1 (.tup [.int 0, .int 1])) := same_new n1
    generalize upd H p1 (.tup [.int 0, .int 1]) = H1 at s1
    show if inV (.int x) [.int 0, .int 1] = true then _ else _
    rw [in2]
    by_cases c0 : x = 0
    · subst c0
      refine iteT ?_
      refine ⟨_, rfl, small1, fun p n2 => ?_⟩
      refine ⟨_, rfl, _, _, rfl, rfl, small2, fun t n3 => ?_⟩
      have s2 := s1.trans (same_new (o := .tup [.int 0]) n2)
      refine hsome .top _ (by rw [hd]; exact read_0 n _) _ t _ (s2.trans (same_new n3)) (upd_same.trans rfl) ⟨p, rfl, SqT.of ?_⟩
      rw [upd_ne (ne_of_none upd_same n3)]
      exact upd_same
    by_cases c1 : x = 1
    · subst c1
      refine iteT ?_
      refine ⟨_, rfl, small1, fun p n2 => ?_⟩
      refine ⟨_, rfl, _, _, rfl, rfl, small2, fun t n3 => ?_⟩
      have s2 := s1.trans (same_new (o := .tup [.int 1]) n2)
      refine hsome .bot _ (by rw [hd]; exact read_1 n _) _ t _ (s2.trans (same_new n3)) (upd_same.trans rfl) ⟨p, rfl, SqT.of ?_⟩
      rw [upd_ne (ne_of_none upd_same n3)]
      exact upd_same
    rw [decide_eq_false c0, decide_eq_false c1]
    refine iteF ?_
    refine ⟨_, rfl, rfl, _, rfl, ?_⟩
    by_cases c2 : x = 2
    · subst c2
      refine iteT ?_
      refine ⟨_, rfl, _, rfl, _, rfl, _, _, rfl, rfl, a, ns, i + 1, 4, rfl, s1.seq hS, fun y hy hlt => ?_, fun y hy hge => ?_, fun hy => ?_⟩
      · have hyp : 0 ≤ y := hpos y (List.mem_of_getElem? hy)
        have hyl : i + 1 < ns.length := (List.getElem?_eq_some_iff.mp hy).1
        refine ⟨small2, fun p n2 => ?_⟩
        refine ⟨_, rfl, _, _, rfl, rfl, small2, fun t n3 => ?_⟩
        have s2 := s1.trans (same_new (o := .tup [.int 2, .int y]) n2)
        have ey : ((y.toNat : Nat) : Int) = y := by omega
        refine hsome (.name y.toNat) _ (by rw [hd, drop_at hy]; exact (read_2 n y.toNat _).trans (if_pos (by omega))) _ t _ (s2.trans (same_new n3)) (upd_same.trans rfl) ⟨p, rfl, SqT.of ?_⟩
        rw [upd_ne (ne_of_none upd_same n3), ey]
        exact upd_same
      · have hyp : 0 ≤ y := hpos y (List.mem_of_getElem? hy)
        exact hnone (by rw [hd, drop_at hy]; exact (read_2 n y.toNat _).trans (if_neg (by omega))) _ s1
      · exact hnone (by rw [hd, drop_end hy]; exact read_2n n) _ s1
    refine ifne c2 ?_
    refine ⟨_, rfl, small2, fun p3 n3 => ⟨p3, _, rfl, .inr (SqT.of upd_same), rfl, rfl, _, rfl, ?_⟩⟩
    have s3 := s1.trans (same_new (o := .tup [.int 3, .int 4]) n3)
    generalize upd H1 p3 (.tup [.int 3, .int 4]) = H3 at s3
    show if inV (.int x) [.int 3, .int 4] = true then _ else _
    rw [in2]
    by_cases c3 : x = 3
    · subst c3
      refine iteT ?_
      have e1 : (nats ns).drop i = 3 :: (nats ns).drop (i + 1) := hd
      refine ⟨_, rfl, _, rfl, _, _, rfl, rfl, a, ns, i + 1, rfl, s3.seq hS, hpos, hil, by omega, fun hx1 H' s4 => hnone (by rw [e1, read_3, hx1]) _ (s3.trans s4), fun c r hx1 H' t v s4 ht hv => ?_⟩
      refine ⟨t, _, rfl, SqT.of ht, rfl, v, _, rfl, .int ((i + 1 + sz c : Nat) : Int), _, rfl, rfl, ?_⟩
      obtain ⟨q1, q2⟩ := read_sz _ _ _ _ hx1
      rw [List.length_drop, nats_len] at q2
      rw [List.drop_drop] at q1
      subst q1
      have s5 := s3.trans s4
      refine ⟨_, rfl, _, rfl, a, ns, i + 1 + sz c, rfl, s5.seq hS, hpos, by omega, by omega, fun hx2 H'' s6 => hnone (by rw [e1, read_3, hx1]; show Option.map _ (Oc.read n ((nats ns).drop (i + 1 + sz c))) = none; rw [hx2]; rfl) _ (s5.trans s6), fun d r2 hx2 H'' t2 v2 s6 ht2 hv2 => ?_⟩
      refine ⟨t2, _, rfl, SqT.of ht2, rfl, v2, _, rfl, .int ((i + 1 + sz c + sz d : Nat) : Int), _, rfl, rfl, ?_⟩
      refine ⟨_, rfl, _, rfl, _, rfl, small3, fun p n4 => ?_⟩
      refine ⟨_, rfl, small2, fun t3 n5 => ?_⟩
      have s7 := (s5.trans s6).trans ((same_new (o := .tup [.int 3, v, v2]) n4).trans (same_new (o := .tup [.ref p, .int ((i + 1 + sz c + sz d : Nat) : Int)]) n5))
      have s8 := s6.trans ((same_new (o := .tup [.int 3, v, v2]) n4).trans (same_new (o := .tup [.ref p, .int ((i + 1 + sz c + sz d : Nat) : Int)]) n5))
      have s9 := (same_new (o := .tup [.int 3, v, v2]) n4).trans (same_new (o := .tup [.ref p, .int ((i + 1 + sz c + sz d : Nat) : Int)]) n5)
      have ek : i + sz (.and c d) = i + 1 + sz c + sz d := by simp only [sz]; omega
      refine hsome (.and c d) r2 (by rw [e1, read_3, hx1]; show Option.map _ (Oc.read n ((nats ns).drop (i + 1 + sz c))) = _; rw [hx2]; rfl) _ t3 (.ref p) s7 (by rw [ek]; exact upd_same) ⟨p, v, v2, rfl, SqT.of ?_, hv.ts s8.ts, hv2.ts s9.ts⟩
      rw [upd_ne (ne_of_none upd_same n5)]
      exact upd_same
    by_cases c4 : x = 4
    · subst c4
      refine iteT ?_
      have e1 : (nats ns).drop i = 4 :: (nats ns).drop (i + 1) := hd
      refine ⟨_, rfl, _, rfl, _, _, rfl, rfl, a, ns, i + 1, rfl, s3.seq hS, hpos, hil, by omega, fun hx1 H' s4 => hnone (by rw [e1, read_4, hx1]) _ (s3.trans s4), fun c r hx1 H' t v s4 ht hv => ?_⟩
      refine ⟨t, _, rfl, SqT.of ht, rfl, v, _, rfl, .int ((i + 1 + sz c : Nat) : Int), _, rfl, rfl, ?_⟩
      obtain ⟨q1, q2⟩ := read_sz _ _ _ _ hx1
      rw [List.length_drop, nats_len] at q2
      rw [List.drop_drop] at q1
      subst q1
      have s5 := s3.trans s4
      refine ⟨_, rfl, _, rfl, a, ns, i + 1 + sz c, rfl, s5.seq hS, hpos, by omega, by omega, fun hx2 H'' s6 => hnone (by rw [e1, read_4, hx1]; show Option.map _ (Oc.read n ((nats ns).drop (i + 1 + sz c))) = none; rw [hx2]; rfl) _ (s5.trans s6), fun d r2 hx2 H'' t2 v2 s6 ht2 hv2 => ?_⟩
      refine ⟨t2, _, rfl, SqT.of ht2, rfl, v2, _, rfl, .int ((i + 1 + sz c + sz d : Nat) : Int), _, rfl, rfl, ?_⟩
      refine ⟨_, rfl, _, rfl, _, rfl, small3, fun p n4 => ?_⟩
      refine ⟨_, rfl, small2, fun t3 n5 => ?_⟩
      have s7 := (s5.trans s6).trans ((same_new (o := .tup [.int 4, v, v2]) n4).trans (same_new (o := .tup [.ref p, .int ((i + 1 + sz c + sz d : Nat) : Int)]) n5))
      have s8 := s6.trans ((same_new (o := .tup [.int 4, v, v2]) n4).trans (same_new (o := .tup [.ref p, .int ((i + 1 + sz c + sz d : Nat) : Int)]) n5))
      have s9 := (same_new (o := .tup [.int 4, v, v2]) n4).trans (same_new (o := .tup [.ref p, .int ((i + 1 + sz c + sz d : Nat) : Int)]) n5)
      have ek : i + sz (.or c d) = i + 1 + sz c + sz d := by simp only [sz]; omega
      refine hsome (.or c d) r2 (by rw [e1, read_4, hx1]; show Option.map _ (Oc.read n ((nats ns).drop (i + 1 + sz c))) = _; rw [hx2]; rfl) _ t3 (.ref p) s7 (by rw [ek]; exact upd_same) ⟨p, v, v2, rfl, SqT.of ?_, hv.ts s8.ts, hv2.ts s9.ts⟩
      rw [upd_ne (ne_of_none upd_same n5)]
      exact upd_same
    rw [decide_eq_false c3, decide_eq_false c4]
    refine iteF ?_
    refine ⟨_, rfl, rfl, _, rfl, ?_⟩
    by_cases c5 : x = 5
    · subst c5
      refine iteT ?_
      have e1 : (nats ns).drop i = 5 :: (nats ns).drop (i + 1) := hd
      refine ⟨_, rfl, _, rfl, _, _, rfl, rfl, a, ns, i + 1, rfl, s3.seq hS, hpos, hil, by omega, fun hx1 H' s4 => hnone (by rw [e1, read_5, hx1]; rfl) _ (s3.trans s4), fun c r hx1 H' t v s4 ht hv => ?_⟩
      refine ⟨t, _, rfl, SqT.of ht, rfl, v, _, rfl, .int ((i + 1 + sz c : Nat) : Int), _, rfl, rfl, ?_⟩
      refine ⟨_, rfl, _, rfl, small2, fun p n6 => ?_⟩
      refine ⟨_, rfl, small2, fun t3 n7 => ?_⟩
      have s7 := (same_new (o := .tup [.int 5, v]) n6).trans (same_new (o := .tup [.ref p, .int ((i + 1 + sz c : Nat) : Int)]) n7)
      have ek : i + sz (.not c) = i + 1 + sz c := by simp only [sz]; omega
      refine hsome (.not c) r (by rw [e1, read_5, hx1]; rfl) _ t3 (.ref p) ((s3.trans s4).trans s7) (by rw [ek]; exact upd_same) ⟨p, v, rfl, SqT.of ?_, hv.ts s7.ts⟩
      rw [upd_ne (ne_of_none upd_same n7)]
      exact upd_same
    refine ifne c5 ?_
    refine ⟨_, rfl, small2, fun p5 n5 => ⟨p5, _, rfl, .inr (SqT.of upd_same), rfl, rfl, _, rfl, ?_⟩⟩
    have s5 := s3.trans (same_new (o := .tup [.int 6, .int 7]) n5)
    generalize upd H3 p5 (.tup [.int 6, .int 7]) = H5 at s5
    show if inV (.int x) [.int 6, .int 7] = true then _ else _
    rw [in2]
    by_cases c6 : x = 6
    · subst c6
      refine iteT ?_
      refine ⟨_, rfl, _, rfl, _, _, rfl, rfl, a, ns, i + 1, 2, rfl, s5.seq hS, fun y hy hlt => ?_, fun y hy hge => ?_, fun hy => ?_⟩
      · have hyp : 0 ≤ y := hpos y (List.mem_of_getElem? hy)
        have hyl : i + 1 < ns.length := (List.getElem?_eq_some_iff.mp hy).1
        have ey : ((y.toNat : Nat) : Int) = y := by omega
        have e1 : (nats ns).drop i = 6 :: y.toNat :: (nats ns).drop (i + 2) := by rw [hd, drop_at hy]; rfl
        have e2 : y.toNat < 2 := by omega
        refine ⟨_, rfl, _, rfl, _, _, rfl, rfl, a, ns, i + 2, rfl, s5.seq hS, hpos, hyl, by omega, fun hx1 H' s6 => hnone (by rw [e1, read_6, if_pos e2, hx1]; rfl) _ (s5.trans s6), fun c r hx1 H' t v s6 ht hv => ?_⟩
        refine ⟨t, _, rfl, SqT.of ht, rfl, v, _, rfl, .int ((i + 2 + sz c : Nat) : Int), _, rfl, rfl, ?_⟩
        refine ⟨_, rfl, _, rfl, _, rfl, small3, fun p n6 => ?_⟩
        refine ⟨_, rfl, small2, fun t3 n7 => ?_⟩
        have s7 := (same_new (o := .tup [.int 6, .int y, v]) n6).trans (same_new (o := .tup [.ref p, .int ((i + 2 + sz c : Nat) : Int)]) n7)
        have ek : i + sz (.some y.toNat c) = i + 2 + sz c := by simp only [sz]; omega
        refine hsome (.some y.toNat c) r (by rw [e1, read_6, if_pos e2, hx1]; rfl) _ t3 (.ref p) ((s5.trans s6).trans s7) (by rw [ek]; exact upd_same) ⟨p, v, rfl, SqT.of ?_, hv.ts s7.ts⟩
        rw [upd_ne (ne_of_none upd_same n7), ey]
        exact upd_same
      · have hyp : 0 ≤ y := hpos y (List.mem_of_getElem? hy)
        exact hnone (by rw [hd, drop_at hy]; exact (read_6 n y.toNat _).trans (if_neg (by omega))) _ s5
      · exact hnone (by rw [hd, drop_end hy]; exact read_6n n) _ s5
    by_cases c7 : x = 7
    · subst c7
      refine iteT ?_
      refine ⟨_, rfl, _, rfl, _, _, rfl, rfl, a, ns, i + 1, 2, rfl, s5.seq hS, fun y hy hlt => ?_, fun y hy hge => ?_, fun hy => ?_⟩
      · have hyp : 0 ≤ y := hpos y (List.mem_of_getElem? hy)
        have hyl : i + 1 < ns.length := (List.getElem?_eq_some_iff.mp hy).1
        have ey : ((y.toNat : Nat) : Int) = y := by omega
        have e1 : (nats ns).drop i = 7 :: y.toNat :: (nats ns).drop (i + 2) := by rw [hd, drop_at hy]; rfl
        have e2 : y.toNat < 2 := by omega
        refine ⟨_, rfl, _, rfl, _, _, rfl, rfl, a, ns, i + 2, rfl, s5.seq hS, hpos, hyl, by omega, fun hx1 H' s6 => hnone (by rw [e1, read_7, if_pos e2, hx1]; rfl) _ (s5.trans s6), fun c r hx1 H' t v s6 ht hv => ?_⟩
        refine ⟨t, _, rfl, SqT.of ht, rfl, v, _, rfl, .int ((i + 2 + sz c : Nat) : Int), _, rfl, rfl, ?_⟩
        refine ⟨_, rfl, _, rfl, _, rfl, small3, fun p n6 => ?_⟩
        refine ⟨_, rfl, small2, fun t3 n7 => ?_⟩
        have s7 := (same_new (o := .tup [.int 7, .int y, v]) n6).trans (same_new (o := .tup [.ref p, .int ((i + 2 + sz c : Nat) : Int)]) n7)
        have ek : i + sz (.all y.toNat c) = i + 2 + sz c := by simp only [sz]; omega
        refine hsome (.all y.toNat c) r (by rw [e1, read_7, if_pos e2, hx1]; rfl) _ t3 (.ref p) ((s5.trans s6).trans s7) (by rw [ek]; exact upd_same) ⟨p, v, rfl, SqT.of ?_, hv.ts s7.ts⟩
        rw [upd_ne (ne_of_none upd_same n7), ey]
        exact upd_same
      · have hyp : 0 ≤ y := hpos y (List.mem_of_getElem? hy)
        exact hnone (by rw [hd, drop_at hy]; exact (read_7 n y.toNat _).trans (if_neg (by omega))) _ s5
      · exact hnone (by rw [hd, drop_end hy]; exact read_7n n) _ s5
    rw [decide_eq_false c6, decide_eq_false c7]
    refine iteF ?_
    have ex : x.toNat = (x.toNat - 8) + 8 := by omega
    exact hnone (by rw [hd, ex]; exact read_big n _ _) _ s5
end
end Ex
/-! read_concepts. -/
namespace Ex
open PySem PySem.Spec PyProof.Rows L2
open Oc (C)
def rdMany : Nat → List Nat → Option (List C × List Nat)
  | 0, l => some ([], l)
  | k + 1, l => match Oc.read (l.length + 1) l with
    | none => none
    | some x => (rdMany k x.2).map fun y => (x.1 :: y.1, y.2)
theorem rdMany_none {k : Nat} {l : List Nat} (h : Oc.read (l.length + 1) l = none) : rdMany (k + 1) l = none := by
  show (match Oc.read (l.length + 1) l with
    | none => none
    | some x => (rdMany k x.2).map fun y => (x.1 :: y.1, y.2)) = none
  rw [h]
theorem rdMany_some {k : Nat} {l r : List Nat} {c : C} (h : Oc.read (l.length + 1) l = some (c, r)) : rdMany (k + 1) l = Option.map (fun (y : List C × List Nat) => (c :: y.1, y.2)) (rdMany k r) := by
  show (match Oc.read (l.length + 1) l with
    | none => none
    | some x => Option.map (fun (y : List C × List Nat) => (x.1 :: y.1, y.2)) (rdMany k x.2)) = _
  rw [h]
theorem rdMany_sz : ∀ (k : Nat) (l : List Nat) (cs : List C) (r : List Nat), rdMany k l = some (cs, r) → cs.length = k ∧ (∀ c ∈ cs, sz c ≤ l.length)
  | 0, l, cs, r, h => by
    obtain ⟨rfl, rfl⟩ := Prod.mk.inj (Option.some.inj h)
    exact ⟨rfl, by simp⟩
  | k + 1, l, cs, r, h => by
    cases e : Oc.read (l.length + 1) l with
    | none =>
      rw [rdMany_none e] at h
      cases h
    | some x =>
      obtain ⟨c, r1⟩ := x
      rw [rdMany_some e] at h
      cases e2 : rdMany k r1 with
      | none => rw [e2] at h; cases h
      | some y =>
        rw [e2] at h
        obtain ⟨rfl, rfl⟩ := Prod.mk.inj (Option.some.inj h)
        obtain ⟨q1, q2⟩ := read_sz _ _ _ _ e
        obtain ⟨q3, q4⟩ := rdMany_sz k r1 y.1 y.2 e2
        refine ⟨by rw [List.length_cons, q3], fun d hd => ?_⟩
        rcases List.mem_cons.mp hd with z | z
        · rw [z]; exact q2
        · have q5 := q4 d z
          rw [q1, List.length_drop] at q5
          omega
section
variable {P : Program} {w : World} {K : PySem.W.Frag} {mg : Str → Option Value} {base : Heap}
/-- a promise for every number of turns up to a bound -/
theorem ok_any {CX : CXT} {f : Addr} {fd : FuncData} {ps : List Str} {sp : Nat → Sp} {k m : Nat} (h : ∀ n, n ≤ m → FnOk P w K mg base CX k f fd ps (sp n)) : FnOk P w K mg base CX k f fd ps (fun vs H Q E => ∃ n, n ≤ m ∧ sp n vs H Q E) :=
  ⟨fun vs H Q E ⟨n, hn, q⟩ => (h n hn).len vs H Q E q, fun A outer s H args us vs Q E hr he hb hv ⟨n, hn, q⟩ => (h n hn).run A outer s H args us vs Q E hr he hb hv q⟩
def spRdA (K : PySem.W.Frag) (CN : Addr) : Sp := fun vs H Q E => ∃ n, n ≤ 31 ∧ spRd K CN n vs H Q E
theorem ok_rdA (T : Txt K mg) : FnOk P w K mg base (L2N.CX P w) 34 T.a_rdC T.d_rdC ["numbers", "at"] (spRdA K T.c_NoC) := ok_any fun n hn => (ok_rdC T n).mono (by omega)
def spRdCs (K : PySem.W.Frag) (CN : Addr) : Sp := fun vs H Q E => ∃ (a : Addr) (ns : List Int) (m : Nat), vs = [.ref a, .int m] ∧ SqL K H a (ns.map V.int) ∧ (∀ x ∈ ns, 0 ≤ x) ∧ ns.length ≤ 30 ∧ m ≤ 2 ∧
  ((∀ cs, rdMany m (nats ns) ≠ some (cs, [])) → ∀ H', Same H H' → E (.ref CN) none H') ∧
  (∀ cs, rdMany m (nats ns) = some (cs, []) → ∀ (H' : Hp) (l : Addr), Same H H' → H l = none → LA (CA K) H' l cs → Q (.ref l) H')
theorem la_nil {α : Type} {R : Hp → α → V → Prop} {H : Hp} {l : Addr} (h : H l = some (.lst [])) : LA R H l [] := ⟨[], h, .nil⟩
theorem la_app {α : Type} {R : Hp → α → V → Prop} (st : Stays R) {H : Hp} {l : Addr} {xs : List α} {vs : List V} {x : α} {v : V} (h : H l = some (.lst vs)) (p : Paired (R H) xs vs) (r : R H x v) : LA R (upd H l (.lst (vs ++ [v]))) l (xs ++ [x]) :=
  ⟨vs ++ [v], upd_same, paired_imp (fun _ _ q => st.go _ _ _ _ (TS.lst h) q) (paired_app p (.cons r .nil))⟩
theorem ok_rdCs (T : Txt K mg) : FnOk P w K mg base (L2N.CX P w) 35 T.a_rdCs T.d_rdCs ["numbers", "many"] (spRdCs K T.c_NoC) := by
  have G := ok_rdA (P := P) (w := w) (base := base) T
  refine okN T.f_rdCs sc_rdCs (fun vs H Q E h => ?_) (fun cdv A outer s H vs Q E hr h => ?_)
  · obtain ⟨a, ns, m, rfl, _⟩ := h
    rfl
  obtain ⟨a, ns, m, rfl, hS, hpos, h30, hm, hbad, hgood⟩ := h
  have tk := L2N.takes_of (X := cxOf (L2N.CX P w) P w K mg base ["numbers", "many", "found", "at", "turn", "concept"] "read_concepts" (defScope s_rdCs) T.a_rdCs cdv A outer s H E) rfl rfl rfl rfl
  refine ⟨_, pss_cons (ps_par (i := 2) (j := 3) (by rfl) sc_rdCs.nd rfl rfl (by decide) rfl rfl (pa_cons (pe_lst pa_nil) (pa_cons pe_int pa_nil)) (by rfl))
    (pss_cons (ps_for (passes_of rfl) rfl (pi_range1 rfl T.z_range (pa_cons (pv 1) pa_nil)) (pg_name (i := 4) sc_rdCs.nd rfl (Or.inl rfl))
      (pss_cons (ps_asg (pe_callS G hr rfl T.g_rdC T.f_rdC.kp T.b_rdC (fun σ => L2N.passAt tk σ) (by exact (pa_cons (pv 0) (pa_cons (pv 3) pa_nil))))
          (pg_tup rfl (pgs_cons (pg_name (i := 5) sc_rdCs.nd rfl (Or.inl rfl)) (pgs_cons (pg_name (i := 3) sc_rdCs.nd rfl (Or.inl rfl)) pgs_nil))))
        (pss_one (ps_expr (pe_bm PySem.F.plainAttrs_list PySem.F.slot_list_append PySem.F.type_list_append mt_append (pv 2) (pa_cons (pv 5) pa_nil))))))
    (pss_cons (ps_if (pt_cmpR op_ne (pv 3) (pe_callB call_len_seq rfl T.z_len PySem.boot_len (pa_cons (pv 0) pa_nil)) (nomark _))
        (pss_one (L2N.ps_raise rfl tk (L2N.pmk_own PySem.F.excBase_ValueError T.xN T.gN T.kN (raises_own T.bN T.tN) (by exact rfl)))) pss_nil)
      (pss_one (ps_ret (pv 2))))), ?_⟩
  refine ⟨(by decide : 0 ≤ sizeLine), fun l nl => ⟨_, _, rfl, ?_⟩⟩
  refine ⟨_, rfl, (m : Int), rfl, by omega, by omega, ?_⟩
  refine for_range (lo := 0) (n := m) (fun i σ H' => ∃ (cs : List C) (j : Nat) (tv cv : Option V), σ = [some (.ref a), some (.int m), some (.ref l), some (.int j), tv, cv] ∧ Same H H' ∧ LA (CA K) H' l cs ∧ j ≤ ns.length ∧ cs.length = i ∧
      rdMany m (nats ns) = (rdMany (m - i) ((nats ns).drop j)).map fun y => (cs ++ y.1, y.2)) ?_ ?_ ?_
  · refine ⟨[], 0, none, none, rfl, same_new nl, la_nil upd_same, Nat.zero_le _, rfl, ?_⟩
    show rdMany m (nats ns) = (rdMany m (nats ns)).map fun y => y
    rw [Option.map_id'] 
  · rintro i σ H' hi ⟨cs, j, tv, cv, rfl, s1, hl, hj, hc, hrd⟩
    have ek : m - i = (m - (i + 1)) + 1 := by omega
    rw [ek] at hrd
    have hlen : ((nats ns).drop j).length = ns.length - j := by rw [List.length_drop, nats_len]
    refine ⟨_, rfl, _, rfl, ns.length - j + 1, by omega, a, ns, j, rfl, s1.seq hS, hpos, hj, by omega, fun hx H2 s2 => ?_, fun c r hx H2 t v s2 ht hv => ?_⟩
    · refine hbad (fun cs' z => ?_) _ (s1.trans s2)
      rw [hrd, rdMany_none (by rw [hlen]; exact hx)] at z
      cases z
    · refine ⟨t, _, rfl, SqT.of ht, rfl, v, _, rfl, .int ((j + sz c : Nat) : Int), _, rfl, rfl, ?_⟩
      obtain ⟨q1, q2⟩ := read_sz _ _ _ _ hx
      rw [hlen] at q2
      rw [List.drop_drop] at q1
      obtain ⟨vs2, h2, p2⟩ := hl.same stC s2
      have hlc : vs2.length ≤ 2 := by
        have := paired_len p2
        omega
      refine ⟨_, rfl, .inl ⟨rfl, _, SqL.of h2⟩, _, rfl, l, vs2, v, rfl, rfl, h2, line_big (by omega), ?_⟩
      refine ⟨cs ++ [c], j + sz c, _, _, rfl, same_upd (s1.trans s2) nl, la_app stC h2 p2 hv, by omega, by rw [List.length_append, hc]; rfl, ?_⟩
      rw [hrd, rdMany_some (by rw [hlen]; exact hx), q1]
      cases rdMany (m - (i + 1)) ((nats ns).drop (j + sz c)) with
      | none => rfl
      | some y =>
        show some (cs ++ c :: y.1, y.2) = some ((cs ++ [c]) ++ y.1, y.2)
        rw [List.append_assoc]
        rfl
  · rintro σ H' ⟨cs, j, tv, cv, rfl, s1, hl, hj, hc, hrd⟩
    have e0 : rdMany m (nats ns) = some (cs, (nats ns).drop j) := by
      rw [hrd, Nat.sub_self]
      show some (cs ++ [], (nats ns).drop j) = _
      rw [List.append_nil]
    refine ⟨_, rfl, _, rfl, a, _, rfl, .inl (s1.seq hS), rfl, _, rfl, ?_⟩
    rw [List.length_map]
    by_cases hjl : j = ns.length
    · subst hjl
      refine Eq.mpr (congrArg (fun z : Bool => if z = true then _ else _) (by simp : (!decide (V.int (ns.length : Nat) = V.int (ns.length : Nat))) = false)) (iteF ?_)
      have e1 : (nats ns).drop ns.length = [] := List.drop_eq_nil_of_le (by rw [nats_len]; exact Nat.le_refl _)
      rw [e1] at e0
      exact ⟨_, rfl, hgood cs e0 _ l s1 nl hl⟩
    · have hne : (!decide (V.int (j : Nat) = V.int (ns.length : Nat))) = true := by
        rw [decide_eq_false fun z => hjl (by have := V.int.inj z; omega)]
        rfl
      refine Eq.mpr (congrArg (fun z : Bool => if z = true then _ else _) hne) (iteT ?_)
      refine hbad (fun cs' z => ?_) _ s1
      rw [e0] at z
      obtain ⟨_, q⟩ := Prod.mk.inj (Option.some.inj z)
      have q2 := congrArg List.length q
      rw [List.length_drop, nats_len] at q2
      simp only [List.length_nil] at q2
      omega
end
end Ex
/-! The atoms of concepts. -/
namespace Ex
open PySem PySem.Spec PyProof.Rows L2
open Oc (C)
def isAtom : C → Bool
  | .name _ => true
  | .some _ _ => true
  | .all _ _ => true
  | _ => false
def parts : C → List C
  | .and c d => [c, d]
  | .or c d => [c, d]
  | .not c => [c]
  | .some _ c => [c]
  | .all _ c => [c]
  | _ => []
theorem atoms_parts (c : C) : c.atoms = (if isAtom c = true then [c] else []) ++ (parts c).flatMap C.atoms := by
  cases c <;> simp [C.atoms, isAtom, parts]
theorem parts_sz (c : C) : ((parts c).map sz).sum < sz c := by
  cases c <;> simp [parts, sz] <;> omega
theorem parts_small {c d : C} (h : d ∈ parts c) : sz d ≤ sz c := by
  cases c <;> simp [parts] at h
  case and a b => rcases h with rfl | rfl <;> simp only [sz] <;> omega
  case or a b => rcases h with rfl | rfl <;> simp only [sz] <;> omega
  case not a => subst h; simp only [sz]; omega
  case some r a => subst h; simp only [sz]; omega
  case all r a => subst h; simp only [sz]; omega
theorem atoms_len : ∀ c : C, c.atoms.length ≤ sz c
  | .top => by simp [C.atoms]
  | .bot => by simp [C.atoms]
  | .name _ => by simp [C.atoms, sz]
  | .and c d => by
    have h1 := atoms_len c
    have h2 := atoms_len d
    simp only [C.atoms, List.length_append, sz]
    omega
  | .or c d => by
    have h1 := atoms_len c
    have h2 := atoms_len d
    simp only [C.atoms, List.length_append, sz]
    omega
  | .not c => by
    have h1 := atoms_len c
    simp only [C.atoms, sz]
    omega
  | .some _ c => by
    have h1 := atoms_len c
    simp only [C.atoms, List.length_cons, sz]
    omega
  | .all _ c => by
    have h1 := atoms_len c
    simp only [C.atoms, List.length_cons, sz]
    omega
theorem atoms_small : ∀ {c d : C}, d ∈ c.atoms → sz d ≤ sz c
  | .top, d, h => by cases h
  | .bot, d, h => by cases h
  | .name a, d, h => by
    obtain rfl : d = .name a := List.mem_singleton.mp h
    exact Nat.le_refl _
  | .and a b, d, h => by
    simp only [sz]
    rcases List.mem_append.mp h with q | q
    · have := atoms_small (c := a) q; omega
    · have := atoms_small (c := b) q; omega
  | .or a b, d, h => by
    simp only [sz]
    rcases List.mem_append.mp h with q | q
    · have := atoms_small (c := a) q; omega
    · have := atoms_small (c := b) q; omega
  | .not a, d, h => by
    have := atoms_small (c := a) (d := d) h
    simp only [sz]; omega
  | .some r a, d, h => by
    rcases List.mem_cons.mp h with q | q
    · rw [q]; exact Nat.le_refl _
    · have := atoms_small (c := a) q
      simp only [sz]; omega
  | .all r a, d, h => by
    rcases List.mem_cons.mp h with q | q
    · rw [q]; exact Nat.le_refl _
    · have := atoms_small (c := a) q
      simp only [sz]; omega
def szs (l : List C) : Nat := (l.map sz).sum
theorem szs_app (l m : List C) : szs (l ++ m) = szs l + szs m := by simp [szs]
theorem szs_len : ∀ l : List C, l.length ≤ szs l
  | [] => Nat.le_refl _
  | c :: l => by
    have h1 := szs_len l
    have h2 := sz_pos c
    show l.length + 1 ≤ ((c :: l).map sz).sum
    rw [List.map_cons, List.sum_cons]
    unfold szs at h1
    omega
theorem szs_atoms : ∀ l : List C, (l.flatMap C.atoms).length ≤ szs l
  | [] => Nat.le_refl _
  | c :: l => by
    have h1 := szs_atoms l
    have h2 := atoms_len c
    rw [List.flatMap_cons, List.length_append]
    unfold szs at h1 ⊢
    rw [List.map_cons, List.sum_cons]
    omega
theorem paired_snoc {α : Type} {R : α → V → Prop} : ∀ {l : List α} {c : α} {vs : List V}, Paired R (l ++ [c]) vs → ∃ v0 v, vs = v0 ++ [v] ∧ Paired R l v0 ∧ R c v
  | [], c, vs, h => by
    cases h with
    | cons r t =>
      cases t
      exact ⟨[], _, rfl, .nil, r⟩
  | a :: l, c, vs, h => by
    cases h with
    | cons r t =>
      obtain ⟨v0, v, e, p, q⟩ := paired_snoc t
      exact ⟨_ :: v0, v, by rw [e]; rfl, .cons r p, q⟩
section
variable {P : Program} {w : World} {K : PySem.W.Frag} {mg : Str → Option Value} {base : Heap}
def spIsAt (K : PySem.W.Frag) : Sp := fun vs H Q _ => ∃ (v : V) (c : C), vs = [v] ∧ CA K H c v ∧ ∀ H', Same H H' → Q (.bl (isAtom c)) H'
def spParts (K : PySem.W.Frag) : Sp := fun vs H Q _ => ∃ (v : V) (c : C), vs = [v] ∧ CA K H c v ∧ ∀ (H' : Hp) (l : Addr), Same H H' → H l = none → LA (CA K) H' l (parts c) → Q (.ref l) H'
theorem in_atom (c : C) : inV (.int (wd c)) [.int 2, .int 6, .int 7] = isAtom c := by cases c <;> rfl
theorem ok_isAt (T : Txt K mg) : FnOk P w K mg base CX0 1 T.a_isAt T.d_isAt ["concept"] (spIsAt K) := by
  refine T.f_isAt.ok sc_isAt (fun vs H Q E h => ?_) (fun cdv A outer s H vs Q E hr h => ?_)
  · obtain ⟨v, c, rfl, _⟩ := h
    rfl
  obtain ⟨v, c, rfl, hc, q⟩ := h
  refine ⟨_, pss_one (ps_ret (pe_cmpR op_in_seq (pe_ix ix_tup (pv 0) pe_int (fun _ _ => rfl)) (pe_tup (pa_cons (gI T.k_NAMED) (pa_cons (gI T.k_SOME) (pa_cons (gI T.k_ALL) pa_nil)))) rfl)), ?_⟩
  obtain ⟨a, r, rfl, ht⟩ := hc.word
  refine ⟨_, rfl, _, _, _, _, rfl, rfl, ht, atI_nat (j := 0) rfl, small3, fun p np => ⟨p, _, rfl, .inr (SqT.of upd_same), rfl, rfl, ?_⟩⟩
  have e : (if false = true then !inV (.int (wd c)) [.int 2, .int 6, .int 7] else inV (.int (wd c)) [.int 2, .int 6, .int 7]) = isAtom c := in_atom c
  show Q (.bl (if false = true then !inV (.int (wd c)) [.int 2, .int 6, .int 7] else inV (.int (wd c)) [.int 2, .int 6, .int 7])) _
  rw [e]
  exact q _ (same_new np)
theorem ok_parts (T : Txt K mg) : FnOk P w K mg base CX0 1 T.a_parts T.d_parts ["concept"] (spParts K) := by
  refine T.f_parts.ok sc_parts (fun vs H Q E h => ?_) (fun cdv A outer s H vs Q E hr h => ?_)
  · obtain ⟨v, c, rfl, _⟩ := h
    rfl
  obtain ⟨v, c, rfl, hc, q⟩ := h
  refine ⟨_, pss_cons (ps_if (pt_cmpR op_in_seq (pe_ix ix_tup (pv 0) pe_int (fun _ _ => rfl)) (pe_tup (pa_cons (gI T.k_BOTH) (pa_cons (gI T.k_EITHER) pa_nil))) rfl)
      (pss_one (ps_ret (pe_lst (pa_cons (pe_ix ix_tup (pv 0) pe_int (fun _ _ => rfl)) (pa_cons (pe_ix ix_tup (pv 0) pe_int (fun _ _ => rfl)) pa_nil))))) pss_nil)
    (pss_cons (ps_if (pt_cmpR op_eq (pe_ix ix_tup (pv 0) pe_int (fun _ _ => rfl)) (gI T.k_NOT) (nomark _))
      (pss_one (ps_ret (pe_lst (pa_cons (pe_ix ix_tup (pv 0) pe_int (fun _ _ => rfl)) pa_nil)))) pss_nil)
    (pss_one (ps_ret (pe_ifExp (pt_cmpR op_in_seq (pe_ix ix_tup (pv 0) pe_int (fun _ _ => rfl)) (pe_tup (pa_cons (gI T.k_SOME) (pa_cons (gI T.k_ALL) pa_nil))) rfl)
      (pe_lst (pa_cons (pe_ix ix_tup (pv 0) pe_int (fun _ _ => rfl)) pa_nil)) (pe_lst pa_nil))))), ?_⟩
  obtain ⟨a, r, rfl, ht⟩ := hc.word
  refine ⟨_, rfl, _, _, _, _, rfl, rfl, ht, atI_nat (j := 0) rfl, small2, fun p np => ⟨p, _, rfl, .inr (SqT.of upd_same), rfl, rfl, _, rfl, ?_⟩⟩
  have s1 : Same H (upd H p (.tup [.int 3, .int 4])) := same_new np
  generalize upd H p (.tup [.int 3, .int 4]) = H1 at s1
  -- two items
  have two : ∀ {x : Int} {u u2 : V} {c d : C}, SqT K H a [.int x, u, u2] → CA K H c u → CA K H d u2 → (∀ (H' : Hp) (l : Addr), Same H H' → H l = none → LA (CA K) H' l [c, d] → Q (.ref l) H') →
      tLst (tCons (tOp (rIxT K) (tVar 0) (tC (.int 1))) (tCons (tOp (rIxT K) (tVar 0) (tC (.int 2))) tNil)) (start ["concept"] [.ref a]) H1 Q := fun {x u u2 c d} h hu hu2 q => by
    refine ⟨_, rfl, _, _, _, _, rfl, rfl, sqT_ts s1.ts h, atI_nat (j := 1) rfl, _, rfl, _, _, _, _, rfl, rfl, sqT_ts s1.ts h, atI_nat (j := 2) rfl, small2, fun l nl => ?_⟩
    have s2 := s1.trans (same_new (o := .lst [u, u2]) nl)
    exact q _ l s2 (s1.free nl) ⟨[u, u2], upd_same, .cons (hu.ts s2.ts) (.cons (hu2.ts s2.ts) .nil)⟩
  have ht1 := sqT_ts s1.ts ht
  cases c with
  | and c d =>
    obtain ⟨b, u, u2, e, h, hu, hu2⟩ := hc
    cases e
    exact iteT (two h hu hu2 q)
  | or c d =>
    obtain ⟨b, u, u2, e, h, hu, hu2⟩ := hc
    cases e
    exact iteT (two h hu hu2 q)
  | not c =>
    obtain ⟨b, u, e, h, hu⟩ := hc
    cases e
    refine iteF ⟨_, rfl, _, _, _, _, rfl, rfl, ht1, atI_nat (j := 0) rfl, rfl, _, rfl, iteT ?_⟩
    refine ⟨_, rfl, _, _, _, _, rfl, rfl, sqT_ts s1.ts h, atI_nat (j := 1) rfl, small1, fun l nl => ?_⟩
    have s2 := s1.trans (same_new (o := .lst [u]) nl)
    exact q _ l s2 (s1.free nl) ⟨[u], upd_same, .cons (hu.ts s2.ts) .nil⟩
  | some k c =>
    obtain ⟨b, u, e, h, hu⟩ := hc
    cases e
    refine iteF ⟨_, rfl, _, _, _, _, rfl, rfl, ht1, atI_nat (j := 0) rfl, rfl, _, rfl, iteF ?_⟩
    refine ⟨_, rfl, _, _, _, _, rfl, rfl, ht1, atI_nat (j := 0) rfl, small2, fun p2 np2 => ⟨p2, _, rfl, .inr (SqT.of upd_same), rfl, rfl, _, rfl, iteT ?_⟩⟩
    have s2 := s1.trans (same_new (o := .tup [.int 6, .int 7]) np2)
    refine ⟨_, rfl, _, _, _, _, rfl, rfl, sqT_ts s2.ts h, atI_nat (j := 2) rfl, small1, fun l nl => ?_⟩
    have s3 := s2.trans (same_new (o := .lst [u]) nl)
    exact q _ l s3 (s2.free nl) ⟨[u], upd_same, .cons (hu.ts s3.ts) .nil⟩
  | all k c =>
    obtain ⟨b, u, e, h, hu⟩ := hc
    cases e
    refine iteF ⟨_, rfl, _, _, _, _, rfl, rfl, ht1, atI_nat (j := 0) rfl, rfl, _, rfl, iteF ?_⟩
    refine ⟨_, rfl, _, _, _, _, rfl, rfl, ht1, atI_nat (j := 0) rfl, small2, fun p2 np2 => ⟨p2, _, rfl, .inr (SqT.of upd_same), rfl, rfl, _, rfl, iteT ?_⟩⟩
    have s2 := s1.trans (same_new (o := .tup [.int 6, .int 7]) np2)
    refine ⟨_, rfl, _, _, _, _, rfl, rfl, sqT_ts s2.ts h, atI_nat (j := 2) rfl, small1, fun l nl => ?_⟩
    have s3 := s2.trans (same_new (o := .lst [u]) nl)
    exact q _ l s3 (s2.free nl) ⟨[u], upd_same, .cons (hu.ts s3.ts) .nil⟩
  | top =>
    refine iteF ⟨_, rfl, _, _, _, _, rfl, rfl, ht1, atI_nat (j := 0) rfl, rfl, _, rfl, iteF ?_⟩
    refine ⟨_, rfl, _, _, _, _, rfl, rfl, ht1, atI_nat (j := 0) rfl, small2, fun p2 np2 => ⟨p2, _, rfl, .inr (SqT.of upd_same), rfl, rfl, _, rfl, iteF ?_⟩⟩
    have s2 := s1.trans (same_new (o := .tup [.int 6, .int 7]) np2)
    refine ⟨(by decide : 0 ≤ sizeLine), fun l nl => ?_⟩
    exact q _ l (s2.trans (same_new nl)) (s2.free nl) (la_nil upd_same)
  | bot =>
    refine iteF ⟨_, rfl, _, _, _, _, rfl, rfl, ht1, atI_nat (j := 0) rfl, rfl, _, rfl, iteF ?_⟩
    refine ⟨_, rfl, _, _, _, _, rfl, rfl, ht1, atI_nat (j := 0) rfl, small2, fun p2 np2 => ⟨p2, _, rfl, .inr (SqT.of upd_same), rfl, rfl, _, rfl, iteF ?_⟩⟩
    have s2 := s1.trans (same_new (o := .tup [.int 6, .int 7]) np2)
    refine ⟨(by decide : 0 ≤ sizeLine), fun l nl => ?_⟩
    exact q _ l (s2.trans (same_new nl)) (s2.free nl) (la_nil upd_same)
  | name n =>
    refine iteF ⟨_, rfl, _, _, _, _, rfl, rfl, ht1, atI_nat (j := 0) rfl, rfl, _, rfl, iteF ?_⟩
    refine ⟨_, rfl, _, _, _, _, rfl, rfl, ht1, atI_nat (j := 0) rfl, small2, fun p2 np2 => ⟨p2, _, rfl, .inr (SqT.of upd_same), rfl, rfl, _, rfl, iteF ?_⟩⟩
    have s2 := s1.trans (same_new (o := .tup [.int 6, .int 7]) np2)
    refine ⟨(by decide : 0 ≤ sizeLine), fun l nl => ?_⟩
    exact q _ l (s2.trans (same_new nl)) (s2.free nl) (la_nil upd_same)
end
end Ex
/-! all_atoms. -/
namespace Ex
open PySem PySem.Spec PyProof.Rows L2
open Oc (C)
theorem LA.at {α : Type} {R : Hp → α → V → Prop} (st : Stays R) {H H' : Hp} {a : Addr} {l : List α} (s : TS H H') (h : LA R H a l) (k : H' a = H a) : LA R H' a l := by
  obtain ⟨vs, e, p⟩ := h
  exact ⟨vs, k.trans e, paired_imp (fun _ _ q => st.go _ _ _ _ s q) p⟩
theorem LA.list_dp {K : PySem.W.Frag} {α : Type} {R : Hp → α → V → Prop} {f : α → PyData} {H : Hp} {a : Addr} {l : List α} (h : ∀ x v, R H x v → Dp K H v (f x)) (q : LA R H a l) : Dp K H (.ref a) (.list (l.map f)) := by
  obtain ⟨vs, e, p⟩ := q
  exact .lst (SqL.of e) (paired_dp h p)
theorem hu64 {k : Nat} {A : Around} (hr : Room k A) : A.units + 64 < cLine := hr.units
theorem hu65 {k : Nat} {A : Around} (hr : Room k A) : A.units + 65 < cLine := by
  have := hr.un
  omega
section
variable {P : Program} {w : World} {K : PySem.W.Frag} {mg : Str → Option Value} {base : Heap}
def spAll (K : PySem.W.Frag) : Sp := fun vs H Q _ => ∃ (a : Addr) (cs : List C), vs = [.ref a] ∧ LA (CA K) H a cs ∧ (∀ c ∈ cs, Sm c) ∧ szs cs ≤ 1000 ∧
  ∀ (H' : Hp) (l : Addr) (as : List C), Same H H' → H l = none → LA (CA K) H' l as → as.Nodup → (∀ x, x ∈ as ↔ x ∈ cs.flatMap C.atoms) → Q (.ref l) H'
/-- between two turns -/
structure Gath (K : PySem.W.Frag) (H : Hp) (cs : List C) (a fl wl : Addr) (m : Nat) (σ : L2.St) (H' : Hp) (fs ws : List C) (cv : Option V) : Prop where
  sl : σ = [some (.ref a), some (.ref fl), some (.ref wl), cv]
  sm : Same H H'
  lf : LA (CA K) H' fl fs
  lw : LA (CA K) H' wl ws
  nd : fs.Nodup
  eq : ∀ x, (x ∈ fs ∨ x ∈ ws.flatMap C.atoms) ↔ x ∈ cs.flatMap C.atoms
  sf : ∀ c ∈ fs, Sm c
  sw : ∀ c ∈ ws, Sm c
  me : m = szs ws
  le : szs ws ≤ 1000
theorem ok_allAt (T : Txt K mg) : FnOk P w K mg base CX0 2 T.a_allAt T.d_allAt ["concepts"] (spAll K) := by
  have GI := ok_isAt (P := P) (w := w) (base := base) T
  have GP := ok_parts (P := P) (w := w) (base := base) T
  refine T.f_allAt.ok sc_allAt (fun vs H Q E h => ?_) (fun cdv A outer s H vs Q E hr h => ?_)
  · obtain ⟨a, cs, rfl, _⟩ := h
    rfl
  obtain ⟨a, cs, rfl, hcs, hsm, hsz, q⟩ := h
  refine ⟨_, pss_cons (ps_par (i := 1) (j := 2) (by rfl) sc_allAt.nd rfl rfl (by decide) rfl rfl (pa_cons (pe_lst pa_nil) (pa_cons (pe_callTy call_list_of rfl T.z_list (by decide +kernel) (pa_cons (pv 0) pa_nil)) pa_nil)) (by rfl))
    (pss_cons (ps_while PassesOwn.never (pt_cmpR (op_neD (hu64 hr)) (pv 2) (pe_lst pa_nil) (nomark _))
      (pss_cons (ps_set (i := 3) sc_allAt.nd rfl (Or.inl rfl) (pe_bm0 PySem.F.plainAttrs_list PySem.F.slot_list_pop PySem.F.type_list_pop mt_pop (pv 2)))
      (pss_cons (ps_if (PW.pt (pw_and (pt_val (pe_call GI hr rfl T.g_isAt T.f_isAt.kp T.b_isAt .nil pass0 (pa_cons (pv 3) pa_nil))) (pw_and1 (pt_cmpR (op_notInD (hu65 hr)) (pv 3) (pv 1) rfl))))
          (pss_one (ps_expr (pe_bm PySem.F.plainAttrs_list PySem.F.slot_list_append PySem.F.type_list_append mt_append (pv 1) (pa_cons (pv 3) pa_nil)))) pss_nil)
      (pss_one (ps_expr (pe_bm PySem.F.plainAttrs_list PySem.F.slot_list_extend PySem.F.type_list_extend mt_extend (pv 2) (pa_cons (pe_call GP hr rfl T.g_parts T.f_parts.kp T.b_parts .nil pass0 (pa_cons (pv 3) pa_nil)) pa_nil)))))))
    (pss_one (ps_ret (pv 1)))), ?_⟩
  obtain ⟨vs, hv, pv0⟩ := hcs
  refine ⟨(by decide : 0 ≤ sizeLine), fun fl nf => ⟨_, rfl, a, vs, rfl, .inl (SqL.of (by rw [upd_ne (ne_of_none hv nf)]; exact hv)), fun wl nw => ⟨_, _, rfl, ?_⟩⟩⟩
  have nw0 : H wl = none := (same_new (o := .lst []) nf).free nw
  have nfw : fl ≠ wl := ne_of_none upd_same nw
  have s0 : Same H (upd (upd H fl (.lst [])) wl (.lst vs)) := (same_new nf).trans (same_new nw)
  refine ⟨fun m σ H' => ∃ fs ws cv, Gath K H cs a fl wl m σ H' fs ws cv, ⟨szs cs, [], cs, none, rfl, s0, ?_, ?_, List.nodup_nil, fun x => by simp, by simp, hsm, rfl, hsz⟩, ?_⟩
  · exact la_nil (by rw [upd_ne nfw]; exact upd_same)
  · exact ⟨vs, upd_same, paired_imp (fun _ _ q => q.ts s0.ts) pv0⟩
  rintro m σ H' ⟨fs, ws, cv, g⟩
  obtain ⟨rfl, s1, hlf, hlw, hnd, heq, hsf, hsw, rfl, hle⟩ := g
  refine ⟨_, rfl, (by decide : 0 ≤ sizeLine), fun p np => ?_⟩
  have s2 : Same H' (upd H' p (.lst [])) := same_new np
  have s3 := s1.trans s2
  have hlf2 := hlf.same stC s2
  have hlw2 := hlw.same stC s2
  refine ⟨_, _, hlw2.list_dp (fun _ _ r => r.dp), (la_nil (R := CA K) upd_same).list_dp (f := dC) (fun _ _ r => r.dp), dCs_shaped hsw, dCs_shaped (l := []) (by simp), _, rfl, ?_⟩
  rw [list_apart dC_apart]
  by_cases hw : ws = []
  · subst hw
    refine iteNS rfl ?_
    refine ⟨_, rfl, q _ fl fs s3 nf hlf2 hnd fun x => ?_⟩
    rw [← heq x]
    simp
  · have ht : (!decide (ws = [])) = true := by rw [decide_eq_false hw]; rfl
    rw [ht]
    refine iteT ?_
    generalize upd H' p (.lst []) = H2 at s2 s3 hlf2 hlw2
    obtain ⟨w0, c, rfl⟩ : ∃ w0 c, ws = w0 ++ [c] := ⟨_, _, (List.dropLast_concat_getLast hw).symm⟩
    obtain ⟨us, hus, pus⟩ := hlw2
    obtain ⟨u0, u, rfl, pu0, hu⟩ := paired_snoc pus
    have hsc : Sm c := hsw c (by simp)
    rw [szs_app] at hle
    have hc1 : szs [c] = sz c := by simp [szs]
    refine ⟨fun σ' H3 => ∃ m', m' < szs (w0 ++ [c]) ∧ ∃ fs ws cv, Gath K H cs a fl wl m' σ' H3 fs ws cv, fun σ' H3 h => h, ?_⟩
    refine ⟨_, rfl, .inl ⟨rfl, _, SqL.of hus⟩, wl, u0 ++ [u], u, rfl, rfl, hus, by simp, ?_⟩
    rw [List.dropLast_concat]
    -- concept = waiting.pop()
    have t1 : TS H2 (upd H2 wl (.lst u0)) := TS.lst hus
    have s4 : Same H (upd H2 wl (.lst u0)) := same_upd s3 nw0
    have hlf4 : LA (CA K) (upd H2 wl (.lst u0)) fl fs := hlf2.at stC t1 (upd_ne nfw)
    have hlw4 : LA (CA K) (upd H2 wl (.lst u0)) wl w0 := ⟨u0, upd_same, paired_imp (fun _ _ q => q.ts t1) pu0⟩
    have hu4 := hu.ts t1
    generalize upd H2 wl (.lst u0) = H4 at t1 s4 hlf4 hlw4 hu4
    refine ⟨_, rfl, u, c, rfl, hu4, fun H5 s5 => ⟨_, rfl, ?_⟩⟩
    have s6 := s4.trans s5
    have hlf5 := hlf4.same stC s5
    have hlw5 := hlw4.same stC s5
    have hu5 := hu4.ts s5.ts
    have hatoms := atoms_parts c
    -- the end of a turn: waiting.extend(parts_of(concept))
    have fin : ∀ (H6 : Hp) (fs' : List C), Same H H6 → LA (CA K) H6 fl fs' → LA (CA K) H6 wl w0 → CA K H6 c u → fs'.Nodup → (∀ x, x ∈ fs' ↔ x ∈ fs ∨ (isAtom c = true ∧ x = c)) →
        tDrop (tBM K "list" rExtend (tVar 2) (tCons (tCall (spParts K) [] E0 (tCons (tVar 3) tNil)) tNil))
          { nx := fun σ' H3 => ∃ m', m' < szs (w0 ++ [c]) ∧ ∃ fs ws cv, Gath K H cs a fl wl m' σ' H3 fs ws cv, rt := Q, bk := tRet (tVar 1) { nx := fun _ H' => Q .non H', rt := Q }, ct := fun σ' H3 => ∃ m', m' < szs (w0 ++ [c]) ∧ ∃ fs ws cv, Gath K H cs a fl wl m' σ' H3 fs ws cv }
          [some (.ref a), some (.ref fl), some (.ref wl), some u] H6 := fun H6 fs' r1 r2 r3 r4 r5 r6 => by
      obtain ⟨ws6, hw6, pw6⟩ := r3
      refine ⟨_, rfl, .inl ⟨rfl, _, SqL.of hw6⟩, _, rfl, u, c, rfl, r4, fun H7 l s7 nl hl7 => ?_⟩
      obtain ⟨ps, hps, pps⟩ := hl7
      have hw7 := s7 _ _ hw6
      have l1 := paired_len pw6
      have l2 := paired_len pps
      have l3 := szs_len w0
      have l4 := szs_len (parts c)
      have l5 : szs (parts c) < sz c := parts_sz c
      refine ⟨wl, l, ws6, ps, rfl, rfl, hw7, hps, Nat.le_of_lt (line_big (by unfold Sm at hsc; omega)), ?_⟩
      have t8 : TS H7 (upd H7 wl (.lst (ws6 ++ ps))) := TS.lst hw7
      have k5 : szs (w0 ++ parts c) < szs (w0 ++ [c]) := by rw [szs_app, szs_app, hc1]; omega
      refine ⟨szs (w0 ++ parts c), k5, fs', w0 ++ parts c, _, rfl, same_upd (r1.trans s7) nw0, (r2.same stC s7).at stC t8 (upd_ne nfw), ⟨ws6 ++ ps, upd_same, ?_⟩, r5, fun x => ?_, fun d hd => ?_, fun d hd => ?_, rfl, by have k6 := szs_app w0 [c]; omega⟩
      · exact paired_app (paired_imp (fun _ _ q => q.ts (s7.ts.trans t8)) pw6) (paired_imp (fun _ _ q => q.ts t8) pps)
      · rw [r6 x, ← heq x, List.flatMap_append, List.flatMap_append]
        have e1 : [c].flatMap C.atoms = c.atoms := by simp
        rw [e1, hatoms]
        simp only [List.mem_append]
        by_cases hA : isAtom c = true
        · rw [if_pos hA, List.mem_singleton]
          constructor
          · rintro ((h | ⟨_, h⟩) | (h | h))
            · exact .inl h
            · exact .inr (.inr (.inl h))
            · exact .inr (.inl h)
            · exact .inr (.inr (.inr h))
          · rintro (h | h | h | h)
            · exact .inl (.inl h)
            · exact .inr (.inl h)
            · exact .inl (.inr ⟨hA, h⟩)
            · exact .inr (.inr h)
        · rw [if_neg hA]
          constructor
          · rintro ((h | ⟨h, _⟩) | (h | h))
            · exact .inl h
            · exact absurd h hA
            · exact .inr (.inl h)
            · exact .inr (.inr (.inr h))
          · rintro (h | h | h | h)
            · exact .inl (.inl h)
            · exact .inr (.inl h)
            · cases h
            · exact .inr (.inr h)
      · rcases (r6 d).mp hd with h | ⟨_, h⟩
        · exact hsf d h
        · rw [h]; exact hsc
      · rcases List.mem_append.mp hd with h | h
        · exact hsw d (List.mem_append_left _ h)
        · exact Nat.le_trans (parts_small h) hsc
    by_cases hA : isAtom c = true
    · rw [hA]
      refine iteT ?_
      refine ⟨_, rfl, _, rfl, dC c, fs.map dC, hu5.dp, hlf5.list_dp (fun _ _ r => r.dp), dC_shaped hsc, dCs_shaped hsf, _, rfl, ?_⟩
      rw [any_apart dC_apart]
      by_cases hm : c ∈ fs
      · have hb : (!fs.contains c) = false := by simp [hm]
        rw [hb]
        refine iteF ?_
        exact fin H5 fs s6 hlf5 hlw5 hu5 hnd fun x => ⟨.inl, fun h => h.elim id fun z => by rw [z.2]; exact hm⟩
      · have hb : (!fs.contains c) = true := by simp [hm]
        rw [hb]
        refine iteT ?_
        obtain ⟨gs, hgs, pgs⟩ := hlf5
        have l1 := paired_len pgs
        have l2 := ExM.nodup_sub_len hnd (b := cs.flatMap C.atoms) fun x hx => (heq x).mp (.inl hx)
        have l3 := szs_atoms cs
        refine ⟨_, rfl, .inl ⟨rfl, _, SqL.of hgs⟩, _, rfl, fl, gs, u, rfl, rfl, hgs, line_big (by omega), ?_⟩
        have t7 : TS H5 (upd H5 fl (.lst (gs ++ [u]))) := TS.lst hgs
        refine fin _ (fs ++ [c]) (same_upd s6 nf) (la_app stC hgs pgs hu5) (hlw5.at stC t7 (upd_ne (Ne.symm nfw))) (hu5.ts t7) ?_ fun x => ?_
        · refine List.nodup_append.mpr ⟨hnd, by simp, fun x hx y hy => ?_⟩
          obtain rfl : y = c := List.mem_singleton.mp hy
          exact fun e => hm (e ▸ hx)
        · rw [List.mem_append, List.mem_singleton]
          exact ⟨fun h => h.elim .inl fun e => .inr ⟨hA, e⟩, fun h => h.elim .inl fun e => .inr e.2⟩
    · have hA' : isAtom c = false := by simpa using hA
      rw [hA']
      refine iteF ?_
      refine iteF ?_
      exact fin H5 fs s6 hlf5 hlw5 hu5 hnd fun x => ⟨.inl, fun h => h.elim id fun z => absurd z.1 hA⟩
end
end Ex
/-! Atoms: __init__, has. -/
namespace Ex
open PySem PySem.Spec PyProof.Rows L2
open Oc (C)
open ExM (has sats every grow In InP Good valP ev)
theorem lkh {k : Str} {v : V} {r : List (Str × V)} : List.lookup k ((k, v) :: r) = some v := by
  have e : (k == k) = true := beq_self_eq_true k
  simp only [List.lookup, e]
theorem lkp {k g : Str} {v : V} {r : List (Str × V)} (h : (k == g) = false) : List.lookup k ((g, v) :: r) = List.lookup k r := by
  simp only [List.lookup, h]
theorem lkn {m g : Str} {v : V} (h : (m == g) = false) : List.lookup m [(g, v)] = none := (lkp h).trans rfl
theorem lkn2 {m g g2 : Str} {v v2 : V} (h : (m == g) = false) (h2 : (m == g2) = false) : List.lookup m [(g, v), (g2, v2)] = none := (lkp h).trans (lkn h2)
theorem puth {f : Str} {v x : V} {r : List (Str × V)} : putF f v ((f, x) :: r) = (f, v) :: r := if_pos rfl
theorem putp {f g : Str} {v x : V} {r : List (Str × V)} (h : ¬ g = f) : putF f v ((g, x) :: r) = (g, x) :: putF f v r := if_neg h
/-- an Atoms object -/
def AtA (K : PySem.W.Frag) (cA : Addr) (H : Hp) (own : List C) (o : Addr) : Prop := ∃ dx l, H o = some (.ins cA dx [("own", .ref l)]) ∧ LA (CA K) H l own
theorem AtA.same {K : PySem.W.Frag} {cA o : Addr} {H H' : Hp} {own : List C} (s : Same H H') : AtA K cA H own o → AtA K cA H' own o := fun ⟨dx, l, h, q⟩ => ⟨dx, l, s _ _ h, q.same stC s⟩
section
variable {P : Program} {w : World} {K : PySem.W.Frag} {mg : Str → Option Value} {base : Heap}
def spAtI (K : PySem.W.Frag) (cA : Addr) : Sp := fun vs H Q _ => ∃ (p dx l : Addr) (own : List C), vs = [.ref p, .ref l] ∧ H p = some (.ins cA dx []) ∧ LA (CA K) H l own ∧
  ∀ H' : Hp, AtA K cA H' own p → (∀ b o, H b = some o → b ≠ p → H' b = some o) → Q .non H'
theorem ok_atI (T : Txt K mg) : FnOk P w K mg base CX0 1 T.a_atI T.d_atI ["self", "own"] (spAtI K T.c_Atoms) := by
  refine T.f_atI.ok sc_atI (fun vs H Q E h => ?_) (fun cdv A outer s H vs Q E hr h => ?_)
  · obtain ⟨p, dx, l, own, rfl, _⟩ := h
    rfl
  obtain ⟨p, dx, l, own, rfl, hp, hl, q⟩ := h
  refine ⟨_, pss_one (ps_fld (pv 0) (pv 1) rfl), ?_⟩
  refine ⟨_, rfl, _, rfl, p, T.c_Atoms, dx, [], rfl, hp, T.cl_Atoms, T.na_Atoms_own, (by show 0 < 1000; decide), ?_⟩
  have npl : l ≠ p := by
    obtain ⟨vs, h, _⟩ := hl
    exact ne_of h hp (by intro z; cases z)
  refine q _ ⟨dx, l, upd_same, hl.at stC (TS.ins hp) (upd_ne npl)⟩ fun b o e hb => by rw [upd_ne hb]; exact e
def spHas (K : PySem.W.Frag) (cA : Addr) (n : Nat) : Sp := fun vs H Q _ => ∃ (o : Addr) (kv cv : V) (own : List C) (k : Kd) (c : C), vs = [.ref o, kv, cv] ∧ AtA K cA H own o ∧ KA K H k kv ∧ CA K H c cv ∧
  own.Nodup ∧ k.length = own.length ∧ In own c ∧ (∀ c ∈ own, Sm c) ∧ sz c ≤ n ∧ n ≤ 30 ∧ ∀ H', Same H H' → Q (.bl (has own k c)) H'
theorem in_tb (c : C) : inV (.int (wd c)) [.int 0, .int 1] = decide (c = .top ∨ c = .bot) := by cases c <;> rfl
theorem has_atom (own : List C) (k : Kd) {c : C} (h : isAtom c = true) : has own k c = valP own k c := by
  cases c <;> first | rfl | (exact absurd h Bool.false_ne_true)
theorem idx_at {own : List C} {c : C} (h : c ∈ own) : own[own.idxOf c]? = some c := by
  have hi : own.idxOf c < own.length := List.idxOf_lt_length_iff.mpr h
  rw [List.getElem?_eq_getElem hi, List.getElem_idxOf hi]
theorem nodup_at {α : Type} {l : List α} (nd : l.Nodup) {i j : Nat} {x : α} (a : l[i]? = some x) (b : l[j]? = some x) : i = j := nd_ix nd a b
theorem ok_has (T : Txt K mg) : ∀ n : Nat, FnOk P w K mg base CX0 (n + 1) T.a_has T.d_has ["self", "kind", "concept"] (spHas K T.c_Atoms n)
  | 0 => by
    have no : ∀ vs H Q E, ¬ spHas K T.c_Atoms 0 vs H Q E := fun vs H Q E h => by
      obtain ⟨o, kv, cv, own, k, c, _, _, _, _, _, _, _, _, h1, _⟩ := h
      have := sz_pos c
      omega
    exact ⟨fun vs H Q E h => absurd h (no vs H Q E), fun A outer s H args us vs Q E _ _ _ _ h => absurd h (no vs H Q E)⟩
  | n + 1 => by
    have IH := ok_has T n
    refine T.f_has.ok sc_has (fun vs H Q E h => ?_) (fun cdv A outer s H vs Q E hr h => ?_)
    · obtain ⟨o, kv, cv, own, k, c, rfl, _⟩ := h
      rfl
    obtain ⟨o, kv, cv, own, k, c, rfl, hA, hk, hc, nd, hkl, hin, hsm, hsz, hn, q⟩ := h
    refine ⟨_, pss_cons (ps_set (i := 3) sc_has.nd rfl (Or.inl rfl) (pe_ix ix_tup (pv 2) pe_int (fun _ _ => rfl)))
      (pss_cons (ps_if (pt_cmpR op_in_seq (pv 3) (pe_tup (pa_cons (gI T.k_EVERYTHING) (pa_cons (gI T.k_NOTHING) pa_nil))) rfl) (pss_one (ps_ret (pe_cmpR op_eq (pv 3) (gI T.k_EVERYTHING) (nomark _)))) pss_nil)
      (pss_cons (ps_if (pt_cmpR op_eq (pv 3) (gI T.k_BOTH) (nomark _)) (pss_one (ps_ret (pe_and
          (pe_meth (pv 0) T.cl_Atoms T.m_has IH hr T.b_has .nil pass0 (pa_cons (pv 1) (pa_cons (pe_ix ix_tup (pv 2) pe_int (fun _ _ => rfl)) pa_nil)))
          (pe_one (pe_meth (pv 0) T.cl_Atoms T.m_has IH hr T.b_has .nil pass0 (pa_cons (pv 1) (pa_cons (pe_ix ix_tup (pv 2) pe_int (fun _ _ => rfl)) pa_nil))))))) pss_nil)
      (pss_cons (ps_if (pt_cmpR op_eq (pv 3) (gI T.k_EITHER) (nomark _)) (pss_one (ps_ret (pe_or
          (pe_meth (pv 0) T.cl_Atoms T.m_has IH hr T.b_has .nil pass0 (pa_cons (pv 1) (pa_cons (pe_ix ix_tup (pv 2) pe_int (fun _ _ => rfl)) pa_nil)))
          (pe_one (pe_meth (pv 0) T.cl_Atoms T.m_has IH hr T.b_has .nil pass0 (pa_cons (pv 1) (pa_cons (pe_ix ix_tup (pv 2) pe_int (fun _ _ => rfl)) pa_nil))))))) pss_nil)
      (pss_cons (ps_if (pt_cmpR op_eq (pv 3) (gI T.k_NOT) (nomark _)) (pss_one (ps_ret (pe_not
          (pe_meth (pv 0) T.cl_Atoms T.m_has IH hr T.b_has .nil pass0 (pa_cons (pv 1) (pa_cons (pe_ix ix_tup (pv 2) pe_int (fun _ _ => rfl)) pa_nil)))))) pss_nil)
      (pss_one (ps_ret (pe_ix ix_tup (pv 1) (pe_bm PySem.F.plainAttrs_list PySem.F.slot_list_index PySem.F.type_list_index (mt_indexD (hu65 hr)) (pe_fld (pv 0) rfl) (pa_cons (pv 2) pa_nil)) (fun _ _ => rfl)))))))), ?_⟩
    obtain ⟨ca, r, rfl, ht⟩ := hc.word
    refine ⟨_, rfl, _, _, _, _, rfl, rfl, ht, atI_nat (j := 0) rfl, ?_⟩
    refine ⟨_, rfl, small2, fun p np => ⟨p, _, rfl, .inr (SqT.of upd_same), rfl, rfl, _, rfl, ?_⟩⟩
    have s1 : Same H (upd H p (.tup [.int 0, .int 1])) := same_new np
    generalize upd H p (.tup [.int 0, .int 1]) = H1 at s1
    have hA1 := hA.same s1
    have hk1 := hk.ts s1.ts
    obtain ⟨dx, lo, hins, _⟩ := hA1
    -- an atom
    have atomE : isAtom c = true → tOp (rIxT K) (tVar 1) (tBM K "list" (rIndexD K) (tFld K (tVar 0) "own") (tCons (tVar 2) tNil)) [some (.ref o), some kv, some (.ref ca), some (.int (wd c))] H1 Q := fun ha => by
      have hm : c ∈ own := hin c (by rw [atoms_parts, if_pos ha]; exact List.mem_append_left _ (List.mem_singleton.mpr rfl))
      obtain ⟨ka, rfl, hkt⟩ := hk1
      have hj := idx_at hm
      have hjl : own.idxOf c < k.length := by rw [hkl]; exact List.idxOf_lt_length_iff.mpr hm
      have hb := List.getElem?_eq_getElem hjl
      refine ⟨_, rfl, _, rfl, o, T.c_Atoms, dx, _, _, rfl, hins, T.cl_Atoms, T.na_Atoms_own, lkh, ?_⟩
      obtain ⟨_, _, hins', hlo⟩ := hA.same s1
      rw [hins] at hins'
      obtain ⟨rfl, rfl⟩ : _ ∧ lo = _ := by
        have z := HO.ins.inj (Option.some.inj hins')
        exact ⟨z.2.1, V.ref.inj (Prod.mk.inj (List.cons.inj z.2.2).1).2⟩
      obtain ⟨lv, hlv, _⟩ := id hlo
      refine ⟨.inl ⟨rfl, _, SqL.of hlv⟩, _, rfl, lo, _, dC c, own.map dC, own.idxOf c, dC c, rfl, rfl, hlo.list_dp (fun _ _ r => r.dp), (hc.ts s1.ts).dp, dCs_shaped hsm, dC_shaped (hsm c hm), by rw [List.getElem?_map, hj]; rfl, by rw [dC_apart]; simp, fun m z' hmj hz' => ?_, ?_⟩
      · rw [List.getElem?_map] at hz'
        cases e : own[m]? with
        | none => rw [e] at hz'; cases hz'
        | some d =>
          rw [e] at hz'
          have hz2 : dC d = z' := Option.some.inj hz'
          rw [← hz2, dC_apart]
          refine decide_eq_false fun ed => ?_
          rw [ed] at e
          have := nodup_at nd e hj
          omega
      · refine ⟨ka, _, _, _, rfl, rfl, hkt, atI_nat (by rw [List.getElem?_map, hb]; rfl), ?_⟩
        have ev : has own k c = k[own.idxOf c] := by
          rw [has_atom own k ha]
          exact ExM.valP_at nd hj hb
        have q' := q _ s1
        rw [ev] at q'
        exact q'
    cases c with
    | top => exact iteT ⟨_, rfl, rfl, q _ s1⟩
    | bot => exact iteT ⟨_, rfl, rfl, q _ s1⟩
    | and c d =>
      obtain ⟨b, u, u2, e, h, hu, hu2⟩ := hc
      cases e
      have hz : 1 + sz c + sz d ≤ n + 1 := hsz
      have p1 := sz_pos c
      have p2 := sz_pos d
      refine iteF ⟨_, rfl, rfl, _, rfl, iteT ?_⟩
      refine ⟨_, rfl, o, dx, _, rfl, hins, lkn (by decide +kernel), _, rfl, _, rfl, _, _, _, _, rfl, rfl, sqT_ts s1.ts h, atI_nat (j := 1) rfl, ?_⟩
      refine ⟨o, kv, _, own, k, c, rfl, hA.same s1, hk.ts s1.ts, (hu.ts s1.ts), nd, hkl, hin.and1, hsm, by omega, by omega, fun H3 s3 => ⟨_, rfl, ?_⟩⟩
      have s4 := s1.trans s3
      cases hb : has own k c with
      | false =>
        refine iteF ?_
        have e : has own k (.and c d) = false := by show (has own k c && has own k d) = false; rw [hb]; rfl
        have q' := q _ s4
        rw [e] at q'
        exact q'
      | true =>
        refine iteT ?_
        refine ⟨_, rfl, o, dx, _, rfl, s3 _ _ hins, lkn (by decide +kernel), _, rfl, _, rfl, _, _, _, _, rfl, rfl, sqT_ts s4.ts h, atI_nat (j := 2) rfl, ?_⟩
        refine ⟨o, kv, _, own, k, d, rfl, hA.same s4, hk.ts s4.ts, (hu2.ts s4.ts), nd, hkl, hin.and2, hsm, by omega, by omega, fun H5 s5 => ?_⟩
        have e : has own k (.and c d) = has own k d := by show (has own k c && has own k d) = _; rw [hb]; rfl
        have q' := q _ (s4.trans s5)
        rw [e] at q'
        exact q'
    | or c d =>
      obtain ⟨b, u, u2, e, h, hu, hu2⟩ := hc
      cases e
      have hz : 1 + sz c + sz d ≤ n + 1 := hsz
      have p1 := sz_pos c
      have p2 := sz_pos d
      refine iteF ⟨_, rfl, rfl, _, rfl, iteF ⟨_, rfl, rfl, _, rfl, iteT ?_⟩⟩
      refine ⟨_, rfl, o, dx, _, rfl, hins, lkn (by decide +kernel), _, rfl, _, rfl, _, _, _, _, rfl, rfl, sqT_ts s1.ts h, atI_nat (j := 1) rfl, ?_⟩
      refine ⟨o, kv, _, own, k, c, rfl, hA.same s1, hk.ts s1.ts, (hu.ts s1.ts), nd, hkl, hin.or1, hsm, by omega, by omega, fun H3 s3 => ⟨_, rfl, ?_⟩⟩
      have s4 := s1.trans s3
      cases hb : has own k c with
      | true =>
        refine iteT ?_
        have e : has own k (.or c d) = true := by show (has own k c || has own k d) = true; rw [hb]; rfl
        have q' := q _ s4
        rw [e] at q'
        exact q'
      | false =>
        refine iteF ?_
        refine ⟨_, rfl, o, dx, _, rfl, s3 _ _ hins, lkn (by decide +kernel), _, rfl, _, rfl, _, _, _, _, rfl, rfl, sqT_ts s4.ts h, atI_nat (j := 2) rfl, ?_⟩
        refine ⟨o, kv, _, own, k, d, rfl, hA.same s4, hk.ts s4.ts, (hu2.ts s4.ts), nd, hkl, hin.or2, hsm, by omega, by omega, fun H5 s5 => ?_⟩
        have e : has own k (.or c d) = has own k d := by show (has own k c || has own k d) = _; rw [hb]; rfl
        have q' := q _ (s4.trans s5)
        rw [e] at q'
        exact q'
    | not c =>
      obtain ⟨b, u, e, h, hu⟩ := hc
      cases e
      have hz : 1 + sz c ≤ n + 1 := hsz
      refine iteF ⟨_, rfl, rfl, _, rfl, iteF ⟨_, rfl, rfl, _, rfl, iteF ⟨_, rfl, rfl, _, rfl, iteT ?_⟩⟩⟩
      refine ⟨_, rfl, o, dx, _, rfl, hins, lkn (by decide +kernel), _, rfl, _, rfl, _, _, _, _, rfl, rfl, sqT_ts s1.ts h, atI_nat (j := 1) rfl, ?_⟩
      exact ⟨o, kv, _, own, k, c, rfl, hA.same s1, hk.ts s1.ts, (hu.ts s1.ts), nd, hkl, hin.not1, hsm, by omega, by omega, fun H3 s3 => ⟨_, rfl, q _ (s1.trans s3)⟩⟩
    | name m =>
      exact iteF ⟨_, rfl, rfl, _, rfl, iteF ⟨_, rfl, rfl, _, rfl, iteF ⟨_, rfl, rfl, _, rfl, iteF (atomE rfl)⟩⟩⟩
    | some m c =>
      exact iteF ⟨_, rfl, rfl, _, rfl, iteF ⟨_, rfl, rfl, _, rfl, iteF ⟨_, rfl, rfl, _, rfl, iteF (atomE rfl)⟩⟩⟩
    | all m c =>
      exact iteF ⟨_, rfl, rfl, _, rfl, iteF ⟨_, rfl, rfl, _, rfl, iteF ⟨_, rfl, rfl, _, rfl, iteF (atomE rfl)⟩⟩⟩
end
end Ex
/-! Comprehensions; satisfies, every. -/
namespace Ex
open PySem PySem.Spec PyProof.Rows L2
open Oc (C)
open ExM (has sats every grow In InP Good valP ev)
/-- what the reading of a comprehension asks behind its walk's start -/
abbrev LcE (J : It) (g : TG) (tt : TT) (te : TE) (vs : List Nat) (σ : L2.St) (H1 : Hp) (D : Addr) (Qd : Hp → Prop) : Prop :=
  ∃ W : Nat → Nat → Hp → Prop, (∃ m, W 0 m (upd H1 D (.lst []))) ∧ ∀ i m H, W i m H →
      (J.stop i H ∧ Qd H) ∨ (J.go i H ∧ ∃ Nx : Hp → Prop, (∀ H', Nx H' → ∃ m', m' < m ∧ W (i + 1) m' H') ∧ ∀ x H', J.yld i H x H' → g x (wipe σ vs) H' fun σ2 H2 => wipe σ2 vs = wipe σ vs ∧ tt σ2 H2 fun b H3 =>
        if b = true then te σ2 H3 fun y H4 => ∃ acc, H4 D = some (.lst acc) ∧ acc.length < sizeLine ∧ Nx (upd H4 D (.lst (acc ++ [y]))) else Nx H3)
/-- a comprehension: zs i is what is made behind i turns -/
theorem lc_by {J : It} {n : Nat} {G : Hp → Prop} {Y : Nat → Hp → V → Hp → Prop} (w : Walk J n G Y) {g : TG} {tt : TT} {te : TE} {vs : List Nat} {σ : L2.St} {H1 : Hp} {D : Addr} {Qd : Hp → Prop} {β : Type} {R : Hp → β → V → Prop} (st : Stays R) (zs : Nat → List β)
    (hD : H1 D = none) (z0 : zs 0 = []) (hn : ∀ i, i < n → (zs i).length ≤ 1000000) (hG : ∀ H', Same H1 H' → G H')
    (hs : ∀ i x H' H2, i < n → Same H1 H' → Y i H' x H2 → ∀ (Yes : V → Hp → Prop) (No : Hp → Prop), (∀ b y H4, Same H' H4 → R H4 b y → zs (i + 1) = zs i ++ [b] → Yes y H4) → (∀ H3, Same H' H3 → zs (i + 1) = zs i → No H3) →
      g x (wipe σ vs) H2 fun σ2 H2 => wipe σ2 vs = wipe σ vs ∧ tt σ2 H2 fun b H3 => if b = true then te σ2 H3 Yes else No H3)
    (hd : ∀ H', Same H1 H' → LA R H' D (zs n) → Qd H') :
    LcE J g tt te vs σ H1 D Qd := by
  refine lc_it w (fun i H' => Same H1 H' ∧ LA R H' D (zs i)) ⟨same_new hD, by rw [z0]; exact la_nil upd_same⟩ (fun i H' _ h => hG H' h.1) (fun i x H' H2 hi h y => ?_) fun H' h => hd H' h.1 h.2
  obtain ⟨s1, us, hus, pus⟩ := h
  refine hs i x H' H2 hi s1 y _ _ (fun b y H4 s4 r e => ?_) fun H3 s3 e => ⟨s1.trans s3, by rw [e]; exact ⟨us, s3 _ _ hus, paired_imp (fun _ _ q => st.go _ _ _ _ s3.ts q) pus⟩⟩
  have l1 := paired_len pus
  have l2 := hn i hi
  have h4 := s4 _ _ hus
  refine ⟨us, h4, line_big (by omega), same_upd (s1.trans s4) hD, ?_⟩
  rw [e]
  exact la_app st h4 (paired_imp (fun _ _ q => st.go _ _ _ _ s4.ts q) pus) r
theorem take_succ' {α : Type} {l : List α} {i : Nat} {x : α} (h : l[i]? = some x) : l.take (i + 1) = l.take i ++ [x] := by
  rw [List.take_add_one, h]
  rfl
/-- a comprehension over a list of data -/
theorem lc_data {K : PySem.W.Frag} {a : Addr} {α β : Type} {R0 : Hp → α → V → Prop} {R : Hp → β → V → Prop} {g : TG} {tt : TT} {te : TE} {vs : List Nat} {σ : L2.St} {H1 : Hp} {D : Addr} {Qd : Hp → Prop} {l : List α} (st0 : Stays R0) (hl : LA R0 H1 a l) (st : Stays R) (test : α → Bool) (f : α → β)
    (hD : H1 D = none) (hn : l.length ≤ 1000000)
    (hs : ∀ x v H', x ∈ l → Same H1 H' → R0 H' x v → ∀ (Yes : V → Hp → Prop) (No : Hp → Prop), (test x = true → ∀ y H4, Same H' H4 → R H4 (f x) y → Yes y H4) → (test x = false → ∀ H3, Same H' H3 → No H3) →
      g v (wipe σ vs) H' fun σ2 H2 => wipe σ2 vs = wipe σ vs ∧ tt σ2 H2 fun b H3 => if b = true then te σ2 H3 Yes else No H3)
    (hd : ∀ H', Same H1 H' → LA R H' D ((l.filter test).map f) → Qd H') :
    LcE (Itl K a) g tt te vs σ H1 D Qd := by
  obtain ⟨us, hus, pus⟩ := hl
  have hlen := paired_len pus
  refine lc_by (walk_list (K := K) (a := a) (xs := us)) st (fun i => ((l.take i).filter test).map f) hD rfl (fun i hi => ?_) (fun H' s => SqL.of (s _ _ hus)) (fun i v H' H2 hi s1 y Yes No hy hno => ?_) fun H' s h => hd H' s ?_
  · rw [List.length_map]
    have h1 := List.length_filter_le test (l.take i)
    have h2 := List.length_take_le' i l
    omega
  · obtain ⟨rfl, hv⟩ := y
    obtain ⟨x, hx, r⟩ := paired_at pus hv
    have e := take_succ' hx
    refine hs x v H2 (List.mem_of_getElem? hx) s1 (st0.go _ _ _ _ s1.ts r) Yes No (fun t y H4 s4 q => hy (f x) y H4 s4 q ?_) fun t H3 s3 => hno H3 s3 ?_
    · rw [e, List.filter_append, List.map_append]
      have e2 : [x].filter test = [x] := by simp [t]
      rw [e2]
      rfl
    · rw [e, List.filter_append, List.map_append]
      have e2 : [x].filter test = [] := by simp [t]
      rw [e2]
      exact List.append_nil _
  · rw [← hlen] at h
    rw [List.take_length] at h
    exact h
section
variable {P : Program} {w : World} {K : PySem.W.Frag} {mg : Str → Option Value} {base : Heap}
/-- the atoms of a ranking, as the walk knows them -/
structure OwnOk (own : List C) : Prop where
  nd : own.Nodup
  sm : ∀ c ∈ own, Sm c
  le : own.length ≤ 4
/-- pairs of concepts of these atoms -/
structure PrOk (own : List C) (l : List Rl) : Prop where
  inp : InP own l
  sm : ∀ r ∈ l, SmR r
  le : l.length ≤ 10
def spSat (K : PySem.W.Frag) (cA : Addr) : Sp := fun vs H Q _ => ∃ (o a : Addr) (kv : V) (own : List C) (k : Kd) (l : List Rl), vs = [.ref o, kv, .ref a] ∧ AtA K cA H own o ∧ KA K H k kv ∧ LA (PA' K) H a l ∧
  OwnOk own ∧ k.length = own.length ∧ PrOk own l ∧ ∀ H', Same H H' → Q (.bl (sats own k l)) H'
theorem ok_sat (T : Txt K mg) : FnOk P w K mg base CX0 32 T.a_sat T.d_sat ["self", "kind", "pairs"] (spSat K T.c_Atoms) := by
  have G := ok_has (P := P) (w := w) (base := base) T 30
  refine T.f_sat.ok sc_sat (fun vs H Q E h => ?_) (fun cdv A outer s H vs Q E hr h => ?_)
  · obtain ⟨o, a, kv, own, k, l, rfl, _⟩ := h
    rfl
  obtain ⟨o, a, kv, own, k, l, rfl, hA, hk, hl, ho, hkl, hp, q⟩ := h
  refine ⟨_, pss_one (ps_ret (pe_callB (cr_all rfl) rfl T.z_all (by decide +kernel) (pa_cons
    (pe_lc (own := [("one", 3), ("other", 4)]) (g := gTup K 2 (gCons (gName 3) (gCons (gName 4) gNil))) (tt := tYes) rfl sc_sat.nd (pi_list (pv 2)) (blkOk_by (own := [("one", 3), ("other", 4)]) (N := ["self", "kind", "pairs", "one", "other"]) (sc := defScope s_sat) (by decide +kernel))
      (fun _ _ _ _ _ => pg_tup rfl (pgs_cons (pg_name (i := 3) sc_sat.nd rfl (Or.inl rfl)) (pgs_cons (pg_name (i := 4) sc_sat.nd rfl (Or.inl rfl)) pgs_nil))) (fun _ _ _ _ _ => pts_nil)
      (fun _ _ _ _ _ => pe_or (pe_not (pe_meth (pv 0) T.cl_Atoms T.m_has G hr T.b_has .nil pass0 (pa_cons (pv 1) (pa_cons (pv 3) pa_nil)))) (pe_one (pe_meth (pv 0) T.cl_Atoms T.m_has G hr T.b_has .nil pass0 (pa_cons (pv 1) (pa_cons (pv 4) pa_nil)))))) pa_nil))), ?_⟩
  obtain ⟨us, hus, _⟩ := id hl
  refine ⟨_, rfl, a, rfl, ⟨us, SqL.of hus⟩, fun D nD => lc_data (K := K) stP hl stB (fun _ => true) (fun r => !has own k r.1 || has own k r.2) nD (Nat.le_trans hp.le (by decide)) (fun r v H' hr' s1 hv Yes No hy _ => ?_) fun H' s1 hD => ?_⟩
  · obtain ⟨t, u, u2, rfl, ht, hu, hu2⟩ := hv
    obtain ⟨dx, lo, hins, _⟩ := hA.same s1
    refine ⟨t, _, rfl, ht, rfl, u, _, rfl, u2, _, rfl, rfl, rfl, ?_⟩
    refine ⟨_, rfl, o, dx, _, rfl, hins, lkn (by decide +kernel), _, rfl, _, rfl, ?_⟩
    refine ⟨o, kv, u, own, k, r.1, rfl, hA.same s1, hk.ts s1.ts, hu, ho.nd, hkl, (hp.inp r hr').1, ho.sm, (hp.sm r hr').1, Nat.le_refl _, fun H3 s3 => ⟨_, rfl, _, rfl, ?_⟩⟩
    cases e : has own k r.1 with
    | false => exact iteT (hy rfl _ _ s3 (by rw [e]; rfl))
    | true =>
      refine iteF ?_
      refine ⟨_, rfl, o, dx, _, rfl, s3 _ _ hins, lkn (by decide +kernel), _, rfl, _, rfl, ?_⟩
      refine ⟨o, kv, u2, own, k, r.2, rfl, hA.same (s1.trans s3), hk.ts (s1.trans s3).ts, hu2.ts s3.ts, ho.nd, hkl, (hp.inp r hr').2, ho.sm, (hp.sm r hr').2, Nat.le_refl _, fun H4 s4 => hy rfl _ _ (s3.trans s4) ?_⟩
      rw [e]
      rfl
  · obtain ⟨vs, hvs, pvs⟩ := hD
    have e := paired_bl pvs
    refine ⟨D, _, rfl, SqL.of (by rw [hvs, e]), ?_⟩
    have e2 : (((l.filter fun _ => true).map fun r : Rl => !has own k r.1 || has own k r.2).all id) = sats own k l := by
      have e3 : l.filter (fun _ => true) = l := List.filter_eq_self.mpr fun _ _ => rfl
      rw [e3, List.all_map]
      rfl
    have q' := q _ s1
    rw [← e2] at q'
    exact q'
end
end Ex
/-! every. -/
namespace Ex
open PySem PySem.Spec PyProof.Rows L2
open Oc (C)
open ExM (has sats every grow In InP Good valP ev)
section
variable {P : Program} {w : World} {K : PySem.W.Frag} {mg : Str → Option Value} {base : Heap}
def spEvery (K : PySem.W.Frag) (cA : Addr) : Sp := fun vs H Q _ => ∃ (o : Addr) (own : List C), vs = [.ref o] ∧ AtA K cA H own o ∧ OwnOk own ∧
  ∀ (H' : Hp) (l : Addr), Same H H' → H l = none → LA (KA K) H' l (every own) → Q (.ref l) H'
theorem grow_len (f : List Kd) : (grow f).length = 2 * f.length := by
  unfold grow
  rw [List.length_append, List.length_map, List.length_map]
  omega
theorem fold_len : ∀ (l : List C) (f : List Kd), (l.foldl (fun f _ => grow f) f).length = 2 ^ l.length * f.length
  | [], f => by simp
  | c :: l, f => by
    rw [List.foldl_cons, fold_len l, grow_len, List.length_cons, Nat.pow_succ, Nat.mul_assoc]
/-- one of the two comprehensions -/
theorem grow1 {sl fl D : Addr} {av : Option V} {H1 : Hp} {f : List Kd} {b : Bool} {Qd : Hp → Prop} (hl : LA (KA K) H1 fl f) (hle : f.length ≤ 1000) (hk : ∀ k ∈ f, k.length ≤ 1000) (nD : H1 D = none)
    (q : ∀ H' : Hp, Same H1 H' → LA (KA K) H' D (f.map fun k => k ++ [b]) → Qd H') :
    LcE (Itl K fl) (gName 3) tYes (tOp (rCatA K) (tVar 3) (tTup (tCons (tC (.bl b)) tNil))) [3] [some (.ref sl), some (.ref fl), av, none] H1 D Qd := by
  refine lc_data (K := K) stK hl (stK (K := K)) (fun _ => true) (fun k => k ++ [b]) nD (by omega) (fun k v H' hk' s1 hv Yes No hy _ => ?_) fun H' s1 h => ?_
  · obtain ⟨a, rfl, ht⟩ := hv
    refine ⟨rfl, ?_⟩
    refine ⟨_, rfl, small1, fun p np => ?_⟩
    have s2 : Same H' (upd H' p (.tup [.bl b])) := same_new np
    refine ⟨a, p, k.map V.bl, [.bl b], rfl, rfl, sqT_ts s2.ts ht, SqT.of upd_same, ?_, fun e => ?_, fun _ e => (List.cons_ne_nil _ _ e).elim, fun _ _ t nt => ?_⟩
    · have := hk k hk'
      rw [List.length_map]
      exact Nat.le_of_lt (line_big (show k.length + 1 ≤ 1000000 by omega))
    · have e' : k = [] := by simpa using e
      subst e'
      exact hy rfl _ _ s2 ⟨p, rfl, SqT.of upd_same⟩
    · exact hy rfl _ _ (s2.trans (same_new nt)) ⟨t, rfl, SqT.of (by rw [upd_same, List.map_append]; rfl)⟩
  · have e3 : f.filter (fun _ => true) = f := List.filter_eq_self.mpr fun _ _ => rfl
    rw [e3] at h
    exact q H' s1 h
theorem ok_every (T : Txt K mg) : FnOk P w K mg base CX0 1 T.a_every T.d_every ["self"] (spEvery K T.c_Atoms) := by
  refine T.f_every.ok sc_every (fun vs H Q E h => ?_) (fun cdv A outer s H vs Q E hr h => ?_)
  · obtain ⟨o, own, rfl, _⟩ := h
    rfl
  obtain ⟨o, own, rfl, hA, ho, q⟩ := h
  refine ⟨_, pss_cons (ps_set (i := 1) sc_every.nd rfl (Or.inl rfl) (pe_lst (pa_cons (pe_tup pa_nil) pa_nil)))
    (pss_cons (ps_for PassesOwn.never rfl (pi_list (pe_fld (pv 0) rfl)) (pg_name (i := 2) sc_every.nd rfl (Or.inl rfl))
      (pss_one (ps_set (i := 1) sc_every.nd rfl (Or.inl rfl) (pe_op op_cat
        (pe_lc (own := [("kind", 3)]) (g := gName 3) (tt := tYes) (te := tOp (rCatA K) (tVar 3) (tTup (tCons (tC (.bl false)) tNil))) rfl sc_every.nd (pi_list (pv 1)) (blkOk_by (own := [("kind", 3)]) (N := ["self", "found", "atom", "kind"]) (sc := defScope s_every) (by decide +kernel))
          (fun _ _ _ _ _ => pg_name (i := 3) sc_every.nd rfl (Or.inl rfl)) (fun _ _ _ _ _ => pts_nil) (fun _ _ _ _ _ => pe_op op_catA (pv 3) (pe_tup (pa_cons pe_bl pa_nil))))
        (pe_lc (own := [("kind", 3)]) (g := gName 3) (tt := tYes) (te := tOp (rCatA K) (tVar 3) (tTup (tCons (tC (.bl true)) tNil))) rfl sc_every.nd (pi_list (pv 1)) (blkOk_by (own := [("kind", 3)]) (N := ["self", "found", "atom", "kind"]) (sc := defScope s_every) (by decide +kernel))
          (fun _ _ _ _ _ => pg_name (i := 3) sc_every.nd rfl (Or.inl rfl)) (fun _ _ _ _ _ => pts_nil) (fun _ _ _ _ _ => pe_op op_catA (pv 3) (pe_tup (pa_cons pe_bl pa_nil))))))))
    (pss_one (ps_ret (pv 1)))), ?_⟩
  refine ⟨(by decide : 0 ≤ sizeLine), fun p np => ⟨small1, fun fl nf => ?_⟩⟩
  have s0 : Same H (upd (upd H p (.tup [])) fl (.lst [.ref p])) := (same_new np).trans (same_new nf)
  have nf0 : H fl = none := (same_new (o := .tup []) np).free nf
  have hl0 : LA (KA K) (upd (upd H p (.tup [])) fl (.lst [.ref p])) fl [[]] := ⟨[.ref p], upd_same, .cons ⟨p, rfl, SqT.of (by rw [upd_ne (ne_of_none upd_same nf)]; exact upd_same)⟩ .nil⟩
  generalize upd (upd H p (.tup [])) fl (.lst [.ref p]) = H0 at s0 hl0
  obtain ⟨dx, lo, hins, hlo⟩ := id hA
  obtain ⟨ov, hov, pov⟩ := id hlo
  have lov := paired_len pov
  refine ⟨_, rfl, o, T.c_Atoms, dx, _, _, rfl, s0 _ _ hins, T.cl_Atoms, T.na_Atoms_own, lkh, lo, rfl, ⟨ov, SqL.of (s0 _ _ hov)⟩, ?_⟩
  refine for_list (K := K) (a := lo) (xs := ov) (fun i σ H' => ∃ (fl : Addr) (av : Option V), σ = [some (.ref o), some (.ref fl), av, none] ∧ Same H H' ∧ H fl = none ∧ LA (KA K) H' fl ((own.take i).foldl (fun f _ => grow f) [[]]))
    ⟨fl, none, rfl, s0, nf0, hl0⟩ (fun i σ H' _ ⟨_, _, _, s, _⟩ => SqL.of (s _ _ hov)) ?_ ?_
  · rintro i x σ H' hx ⟨fl, av, rfl, s1, nf, hl⟩
    obtain ⟨c, hc, _⟩ := paired_at pov hx
    have hi : i < own.length := (List.getElem?_eq_some_iff.mp hc).1
    have hi4 := ho.le
    have hlen : ((own.take i).foldl (fun f _ => grow f) [[]]).length = 2 ^ i := by
      rw [fold_len, List.length_take, Nat.min_eq_left (Nat.le_of_lt hi)]
      exact Nat.mul_one _
    have h16 : (2 : Nat) ^ i ≤ 2 ^ 4 := Nat.pow_le_pow_right (by decide) (by omega)
    have hkl : ∀ k ∈ (own.take i).foldl (fun f _ => grow f) [[]], k.length ≤ 1000 := fun k hk => by
      have e := (ExM.every_mem (own.take i) k).mp hk
      rw [e, List.length_take]
      omega
    generalize hff : (own.take i).foldl (fun f _ => grow f) [[]] = ff at hl hlen hkl
    have hff2 : ff.length ≤ 1000 := by omega
    obtain ⟨us1, hus1, _⟩ := id hl
    refine ⟨_, rfl, fl, rfl, ⟨us1, SqL.of hus1⟩, fun D1 n1 => grow1 hl hff2 hkl n1 fun H2 s2 h1 => ?_⟩
    refine ⟨_, rfl, fl, rfl, ⟨us1, SqL.of (s2 _ _ hus1)⟩, fun D2 n2 => grow1 (hl.same stK s2) hff2 hkl n2 fun H3 s3 h2 => ?_⟩
    have h1' := h1.same stK s3
    obtain ⟨u1, hu1, p1⟩ := h1'
    obtain ⟨u2, hu2, p2⟩ := h2
    have l1 := paired_len p1
    have l2 := paired_len p2
    rw [List.length_map] at l1 l2
    refine ⟨D1, D2, u1, u2, rfl, rfl, hu1, hu2, Nat.le_of_lt (line_big (by omega)), fun t nt => ?_⟩
    have s4 := (s1.trans s2).trans s3
    refine ⟨t, some x, rfl, s4.trans (same_new nt), s4.free nt, ⟨u1 ++ u2, upd_same, ?_⟩⟩
    rw [take_succ' hc, List.foldl_append, hff]
    exact paired_imp (fun _ _ q => q.ts (TS.new nt)) (paired_app p1 p2)
  · rintro σ H' ⟨fl, av, rfl, s1, nf, hl⟩
    rw [← lov, List.take_length] at hl
    exact ⟨_, rfl, q H' fl s1 nf hl⟩
end
end Ex
/-! zip of a list and a tuple of one length. -/
namespace Ex
open PySem PySem.Spec PyProof.Rows L2
/-- at turn i a new pair of the i-th of the list at a and the i-th of the tuple at b -/
def ItM (K : PySem.W.Frag) (a b : Addr) : It where
  go := fun i H => ∃ (xs ys : List V) (x y : V), SqL K H a xs ∧ SqT K H b ys ∧ xs[i]? = some x ∧ ys[i]? = some y
  yld := fun i H v H' => ∃ (t : Addr) (x y : V), v = .ref t ∧ H t = none ∧ H' = upd H t (.tup [x, y]) ∧ (∀ xs, SqL K H a xs → xs[i]? = some x) ∧ (∀ ys, SqT K H b ys → ys[i]? = some y)
  stop := fun i H => ∃ xs ys : List V, SqL K H a xs ∧ SqT K H b ys ∧ xs.length = i ∧ ys.length = i
/-- the five cells of the zip at z -/
abbrev cells5 (z m o p q : Addr) : List Addr := [z, m, o, p, q]
theorem mem5 {z m o p q c : Addr} (h : c ∈ cells5 z m o p q) : c = z ∨ c = m ∨ c = o ∨ c = p ∨ c = q := by simpa [cells5] using h
theorem not5 {z m o p q c : Addr} (h : c ∉ cells5 z m o p q) : c ≠ z ∧ c ≠ m ∧ c ≠ o ∧ c ≠ p ∧ c ≠ q := by simpa [cells5] using h
theorem turn_m {P : Program} {w : World} {K : PySem.W.Frag} {elts : List Expr} {kk : Nat} {tpos : Pos} {a b z m o p q : Addr} (S : ZipSep2 z m o p q [p, a] [q, b]) (nap : a ≠ p) (nbq : b ≠ q) :
    Turn P w K (.Tuple elts kk tpos) (ItM K a b) (cells5 z m o p q) z (fun i h => IsZip h z m o .none ∧ IsTupOf2 h m (.ref p) (.ref q) ∧ (∃ x y, IsTupOf2 h o x y) ∧ h.IsListIter p a i ∧ h.IsTupleIter q b i) where
  mem := by simp [cells5]
  obj := fun i h st c hc => by
    obtain ⟨hz, hm, ⟨x, y, ho⟩, ⟨o1, e1, _, d1⟩, ⟨o2, e2, _, d2⟩⟩ := st
    rcases mem5 hc with rfl | rfl | rfl | rfl | rfl
    · exact ⟨_, hz, fun v q => nomatch q⟩
    · exact ⟨_, hm, fun v q => nomatch q⟩
    · exact ⟨_, ho, fun v q => nomatch q⟩
    · exact ⟨o1, e1, fun v q => by rw [d1] at q; cases q⟩
    · exact ⟨o2, e2, fun v q => by rw [d2] at q; cases q⟩
  keep := fun i h h' st k => by
    obtain ⟨hz, hm, ⟨x, y, ho⟩, h1, h2⟩ := st
    have up := fun c (hc : c ∈ cells5 z m o p q) => k c hc
    exact ⟨up z (by simp [cells5]) _ hz, up m (by simp [cells5]) _ hm, ⟨x, y, up o (by simp [cells5]) _ ho⟩, h1.at fun u r => up p (by simp [cells5]) u r, h2.at fun u r => up q (by simp [cells5]) u r⟩
  item := by
    intro X hP hw hK hc i pins s σ H E I hf st hg
    subst hP hw hK
    obtain ⟨hz, hm, ⟨x0, y0, ho⟩, h1, h2⟩ := st
    obtain ⟨xs, ys, x, y, hqx, hqy, hx, hy⟩ := hg
    obtain ⟨us, rx, px, _⟩ := I.list hqx
    obtain ⟨ws, ry, py, _⟩ := I.tuple hqy
    obtain ⟨u, hu, ru⟩ := rx.get hx
    obtain ⟨v, hv, rv⟩ := ry.get hy
    have hd : X.A.in1.handled = none := I.ok.hd hc
    have hux : us.toArray[i]? = some u := by simpa using hu
    have hvx : ws.toArray[i]? = some v := by simpa using hv
    have zlt : z < s.heap.objs.size := Heap.lt_size hz
    refine wpAny_pyNext_zipD2_item S (Draws.list (prog := X.prog) (w := X.w) hd p a nap us.toArray) (Draws.tuple (prog := X.prog) (w := X.w) hd q b nbq ws.toArray) hz hm ho ⟨h1, px.isList⟩ ⟨h2, py⟩
      (Array.getElem?_eq_some_iff.mp hux).1 (Array.getElem?_eq_some_iff.mp hvx).1 fun u' v' g tk eu ev gz go g1 g2 gt gsz gk => ?_
    obtain rfl : u = u' := Option.some.inj (hux.symm.trans eu)
    obtain rfl : v = v' := Option.some.inj (hvx.symm.trans ev)
    refine ⟨_, rfl, wpAny_letOwnedTupleGo_zip (s := { s with heap := g, toks := tk }) gz fun g' gz' sb => ?_⟩
    have sb' : ∀ c, c ≠ z → g'.get? c = g.get? c := fun c hcz => sb.2 c hcz
    have newT : g'.get? s.heap.objs.size = some { cls := .type "tuple", data := .seq #[u, v] } := (sb' _ (Nat.ne_of_gt zlt)).trans gt
    have okT : ObjOk X.prog X.w (upd H s.heap.objs.size (.tup [x, y])) g' s.heap.objs.size (.tup [x, y]) := ⟨small2, [u, v], .cons ru (.cons rv .nil), ⟨_, newT, rfl, _, rfl⟩⟩
    have J : Inv X pins σ (upd H s.heap.objs.size (.tup [x, y])) { s with heap := g', toks := tk } := I.turnedNew (t' := tk) (ch := cells5 z m o p q) (fun c ob hcn e => by
      obtain ⟨cz, cm, co, cp, cq⟩ := not5 hcn
      exact (sb' c cz).trans (gk c ob cz co cp cq e)) hf (Nat.le_refl _) okT
    have Tm : m ≠ z := S.TIz
    have To : o ≠ z := S.TOz
    have Tp : p ≠ z := fun e => S.zf1 (by rw [← e]; exact List.mem_cons_self)
    have Tq : q ≠ z := fun e => S.zf2 (by rw [← e]; exact List.mem_cons_self)
    refine ⟨.ref s.heap.objs.size, _, J, rfl, ⟨_, x, y, rfl, I.hok.fresh (Nat.le_refl _), rfl, fun l hl => by rw [I.list_inj hl hqx]; exact hx, fun l hl => by rw [I.tuple_inj hl hqy]; exact hy⟩,
      ⟨gz', (sb' m Tm).trans (gk m _ Tm S.TITO S.TIi1 S.TIi2 hm), ⟨u, v, (sb' o To).trans go⟩, g1.1.at fun ob e => (sb' p Tp).trans e, g2.1.at fun ob e => (sb' q Tq).trans e⟩, fun c hcm => ?_⟩
    have old : c < s.heap.objs.size := by
      rcases mem5 hcm with e | e | e | e | e
      · rw [e]; exact zlt
      · rw [e]; exact Heap.lt_size hm
      · rw [e]; exact Heap.lt_size ho
      · rw [e]; obtain ⟨_, e1, _⟩ := h1; exact Heap.lt_size e1
      · rw [e]; obtain ⟨_, e2, _⟩ := h2; exact Heap.lt_size e2
    exact (upd_ne (Nat.ne_of_lt old)).trans (hf c hcm).1
  done := by
    intro X hP hw hK hc i pins s σ H E I hf st hg
    subst hP hw hK
    obtain ⟨hz, hm, ⟨x0, y0, ho⟩, h1, h2⟩ := st
    obtain ⟨xs, ys, hqx, hqy, lx, ly⟩ := hg
    obtain ⟨us, rx, px, _⟩ := I.list hqx
    obtain ⟨ws, ry, py, _⟩ := I.tuple hqy
    have hd : X.A.in1.handled = none := I.ok.hd hc
    have l1 : us.toArray.size = i := by rw [List.size_toArray, ← rx.length, lx]
    have l2 : ws.toArray.size = i := by rw [List.size_toArray, ← ry.length, ly]
    exact wpAny_pyNext_zipD2_end S (Draws.list (prog := X.prog) (w := X.w) hd p a nap us.toArray) (Draws.tuple (prog := X.prog) (w := X.w) hd q b nbq ws.toArray) hz hm ho ⟨h1, px.isList⟩ ⟨h2, py⟩
      (Nat.le_of_eq l1.symm) (Nat.le_of_eq l2.symm) (.inl l1.symm) fun g tk gk => ⟨rfl, I.turnedL (t' := tk) (ch := cells5 z m o p q) (fun c ob hcn e => by
        obtain ⟨cz, cm, co, cp, cq⟩ := not5 hcn
        exact gk c ob cz co cp cq e) hf⟩
  self := fun A i s Q E st h => wpAny_pyIter_zip st.1 h
def iZipM (K : PySem.W.Frag) (ta : TA) : TI := fun σ H R => ta σ H fun vs H1 => ∃ (a b : Addr) (xs ys : List V), vs = [.ref a, .ref b] ∧ SqL K H1 a xs ∧ SqT K H1 b ys ∧ R (ItM K a b) H1
theorem pi_zipM {X : Cx} {e e2 : Expr} {ta : TA} {p pos tpos : Pos} {elts : List Expr} {kk : Nat} (hg : Gl X "zip") (hm : X.mg "zip" = none) (ha : PA X [e, e2] ta)
    (hs : starEach [e, e2] X.env = (false, eval e X.env) :: starEach [e2] X.env := by rfl) (hpl : (backTo pos (starEach [e2] X.env)).any (·.1) = false := by rfl) :
    PI X (.Tuple elts kk tpos) (.Call (.Name "zip" p) [e, e2] [] pos) (iZipM X.K ta) := by
  refine ⟨fun pins s σ H R I h => ?_⟩
  refine Call_ (ld_blt I hg hm PyProof.Rows.boot_zip (PyProof.Rows.callWith_type1 (thn (ha.run pos pins s σ H _ I h) fun us s1 hu => ?_) hs hpl))
  obtain ⟨vs, H1, J, r1, a, b, xs, ys, rfl, hx, hy, q⟩ := hu
  obtain ⟨u1, u2, rfl, rfl, rfl⟩ := vals2 r1
  obtain ⟨its, rx, px, _⟩ := J.list hx
  obtain ⟨its2, ry, py, _⟩ := J.tuple hy
  obtain ⟨o2, ho2, _⟩ := id py
  have la : a < s1.heap.objs.size := px.lt
  have lb : b < s1.heap.objs.size := Heap.lt_size ho2
  refine zip_begins2 (begins_list a its.toArray) (begins_tuple b its2.toArray) px.isList (show s1.heap.IsTuple b its2.toArray from py) fun g gz gm go g1 g2 gsz gk => wpAny_pyIter_zip gz ?_
  have J2 : Inv X pins σ H1 { s1 with heap := g } := J.kept (t' := s1.toks) gk
  have S := zip_sep2 (N := s1.heap.objs.size) (fp1 := [a]) (fp2 := [b]) (fun c hc => by rw [List.mem_singleton.mp hc]; exact la) (fun c hc => by rw [List.mem_singleton.mp hc]; exact lb)
  refine ⟨s1.heap.objs.size + 4, _, _, _, H1, rfl, J2, turn_m S (Nat.ne_of_lt la) (Nat.ne_of_lt (Nat.lt_succ_of_lt lb)), ⟨gz, gm, ⟨_, _, go⟩, ⟨_, g1, rfl, rfl⟩, ⟨_, g2, rfl, rfl⟩⟩, fun c hc => ?_, q⟩
  have hle : s1.heap.objs.size ≤ c := by
    rcases mem5 hc with e | e | e | e | e
    · rw [e]; exact Nat.le_add_right _ _
    · rw [e]; exact Nat.le_add_right _ _
    · rw [e]; exact Nat.le_add_right _ _
    · rw [e]; exact Nat.le_refl _
    · rw [e]; exact Nat.le_add_right _ _
  exact J.fpOk hle (J.hok.fresh hle)
theorem walk_m {K : PySem.W.Frag} {a b : Addr} {xs ys : List V} {n : Nat} (h1 : xs.length = n) (h2 : ys.length = n) : Walk (ItM K a b) n (fun H => SqL K H a xs ∧ SqT K H b ys) (YPair (fun i => xs[i]?) (fun i => ys[i]?)) := by
  refine ⟨fun i _ hi q => ⟨xs, ys, xs[i]'(by omega), ys[i]'(by omega), q.1, q.2, List.getElem?_eq_getElem _, List.getElem?_eq_getElem _⟩, fun _ q => ⟨xs, ys, q.1, q.2, h1, h2⟩, fun i H v H' _ q y => ?_⟩
  obtain ⟨t, x, z, e1, e2, e3, e4, e5⟩ := y
  exact ⟨t, x, z, e1, e2, e3, e4 xs q.1, e5 ys q.2⟩
end Ex
/-! may_relate, is_shown. -/
namespace Ex
open PySem PySem.Spec PyProof.Rows L2
open Oc (C)
open ExM (has sats every grow In InP Good valP ev rel1 mayRel shown poss)
theorem zip_at {own : List C} {k : Kd} {i : Nat} {c : C} {b : Bool} (h1 : own[i]? = some c) (h2 : k[i]? = some b) : (own.zip k)[i]? = some (c, b) := by
  obtain ⟨i1, e1⟩ := List.getElem?_eq_some_iff.mp h1
  obtain ⟨i2, e2⟩ := List.getElem?_eq_some_iff.mp h2
  rw [List.getElem?_eq_getElem (by rw [List.length_zip]; omega), List.getElem_zip, e1, e2]
theorem bl_at {k : Kd} {i : Nat} {v : V} (h : (k.map V.bl)[i]? = some v) : ∃ b, k[i]? = some b ∧ v = .bl b := by
  rw [List.getElem?_map] at h
  cases e : k[i]? with
  | none => rw [e] at h; cases h
  | some b =>
    rw [e] at h
    exact ⟨b, rfl, (Option.some.inj h).symm⟩
/-- an own atom's parts are of the atoms -/
theorem cl_some {own : List C} (g : ExM.Closed own) {r : Nat} {d : C} (h : C.some r d ∈ own) : In own d := g.1 r d h
theorem cl_all {own : List C} (g : ExM.Closed own) {r : Nat} {d : C} (h : C.all r d ∈ own) : In own d := g.2 r d h
theorem sm_some {own : List C} (g : ∀ c ∈ own, Sm c) {r : Nat} {d : C} (h : C.some r d ∈ own) : Sm d := by
  have := g _ h
  unfold Sm at this ⊢
  simp only [sz] at this
  omega
theorem sm_all {own : List C} (g : ∀ c ∈ own, Sm c) {r : Nat} {d : C} (h : C.all r d ∈ own) : Sm d := by
  have := g _ h
  unfold Sm at this ⊢
  simp only [sz] at this
  omega
theorem ite_ne {x y : V} {A B : Prop} (h : ¬ x = y) (b : A) : if (!decide (x = y)) = true then A else B := by
  rw [decide_eq_false h]
  exact b
theorem ite_nn {x y : V} {A B : Prop} (h : x = y) (b : B) : if (!decide (x = y)) = true then A else B := by
  rw [decide_eq_true h]
  exact iteF b
theorem ite_eq {x y : V} {A B : Prop} (h : x = y) (b : A) : if decide (x = y) = true then A else B := by
  rw [decide_eq_true h]
  exact b
theorem ite_en {x y : V} {A B : Prop} (h : ¬ x = y) (b : B) : if decide (x = y) = true then A else B := by
  rw [decide_eq_false h]
  exact iteF b
section
variable {P : Program} {w : World} {K : PySem.W.Frag} {mg : Str → Option Value} {base : Heap}
def spRel (K : PySem.W.Frag) (cA : Addr) : Sp := fun vs H Q _ => ∃ (o : Addr) (kv jv : V) (own : List C) (k j : Kd) (r : Nat), vs = [.ref o, kv, .int r, jv] ∧ AtA K cA H own o ∧ KA K H k kv ∧ KA K H j jv ∧
  OwnOk own ∧ ExM.Closed own ∧ k.length = own.length ∧ j.length = own.length ∧ ∀ H', Same H H' → Q (.bl (mayRel own k r j)) H'
theorem ok_mayRel (T : Txt K mg) : FnOk P w K mg base CX0 32 T.a_mayRel T.d_mayRel ["self", "kind", "role", "other"] (spRel K T.c_Atoms) := by
  have G := ok_has (P := P) (w := w) (base := base) T 30
  refine T.f_mayRel.ok sc_mayRel (fun vs H Q E h => ?_) (fun cdv A outer s H vs Q E hr h => ?_)
  · obtain ⟨o, kv, jv, own, k, j, r, rfl, _⟩ := h
    rfl
  obtain ⟨o, kv, jv, own, k, j, r, rfl, hA, hk, hj, ho, hcl, hkl, hjl, q⟩ := h
  refine ⟨_, pss_cons (ps_for PassesOwn.never rfl (pi_zipM rfl T.z_zip (pa_cons (pe_fld (pv 0) rfl) (pa_cons (pv 1) pa_nil)))
      (pg_tup rfl (pgs_cons (pg_name (i := 4) sc_mayRel.nd rfl (Or.inl rfl)) (pgs_cons (pg_name (i := 5) sc_mayRel.nd rfl (Or.inl rfl)) pgs_nil)))
      (pss_one (ps_if (PW.pt (pw_and (pt_cmpR op_in_seq (pe_ix ix_tup (pv 4) pe_int (fun _ _ => rfl)) (pe_tup (pa_cons (gI T.k_SOME) (pa_cons (gI T.k_ALL) pa_nil))) rfl)
          (pw_and (pt_cmpR op_eq (pe_ix ix_tup (pv 4) pe_int (fun _ _ => rfl)) (pv 2) (nomark _))
            (pw_and1 (pt_cmpR op_eq (pv 5) (pe_cmpR op_eq (pe_ix ix_tup (pv 4) pe_int (fun _ _ => rfl)) (gI T.k_ALL) (nomark _)) (nomark _))))))
        (pss_one (ps_if (pt_cmpR op_ne (pe_meth (pv 0) T.cl_Atoms T.m_has G hr T.b_has .nil pass0 (pa_cons (pv 3) (pa_cons (pe_ix ix_tup (pv 4) pe_int (fun _ _ => rfl)) pa_nil))) (pv 5) (nomark _))
          (pss_one (ps_ret pe_bl)) pss_nil)) pss_nil)))
    (pss_one (ps_ret pe_bl)), ?_⟩
  obtain ⟨dx, lo, hins, hlo⟩ := id hA
  obtain ⟨ov, hov, pov⟩ := id hlo
  obtain ⟨ka, rfl, hkt⟩ := id hk
  have lov := paired_len pov
  have lkv : (k.map V.bl).length = own.length := by rw [List.length_map, hkl]
  refine ⟨_, rfl, o, T.c_Atoms, dx, _, _, rfl, hins, T.cl_Atoms, T.na_Atoms_own, lkh, _, rfl, lo, ka, ov, k.map V.bl, rfl, SqL.of hov, hkt, ?_⟩
  refine for_it (walk_m (K := K) (n := own.length) lov.symm lkv) (fun i σ H' => ∃ av bv : Option V, σ = [some (.ref o), some (.ref ka), some (.int r), some jv, av, bv] ∧ Same H H' ∧ ((own.zip k).take i).all (rel1 own r j) = true)
    ⟨none, none, rfl, Same.refl H, rfl⟩ (fun i σ H' _ ⟨_, _, _, s, _⟩ => ⟨SqL.of (s _ _ hov), sqT_ts s.ts hkt⟩) ?_ ?_
  · rintro i x σ H1 H2 hi ⟨av, bv, rfl, s1, hall⟩ ⟨t, cv, bv', rfl, nt, rfl, hcv, hbv⟩
    obtain ⟨c, hc, hca⟩ := paired_at pov hcv
    obtain ⟨b, hb, rfl⟩ := bl_at hbv
    have hm : c ∈ own := List.mem_of_getElem? hc
    have hz := zip_at hc hb
    have s2 : Same H1 (upd H1 t (.tup [cv, .bl b])) := same_new nt
    have s3 := s1.trans s2
    refine ⟨t, _, rfl, SqT.of upd_same, rfl, cv, _, rfl, .bl b, _, rfl, rfl, ?_⟩
    generalize upd H1 t (.tup [cv, .bl b]) = H3 at s2 s3
    have hca3 := hca.ts s3.ts
    -- the turn's ends
    have go : ∀ H4, Same H H4 → rel1 own r j (c, b) = true → ∃ av bv : Option V, [some (.ref o), some (.ref ka), some (.int r), some jv, some cv, some (.bl b)] = [some (.ref o), some (.ref ka), some (.int r), some jv, av, bv] ∧ Same H H4 ∧ ((own.zip k).take (i + 1)).all (rel1 own r j) = true := fun H4 s4 e =>
      ⟨_, _, rfl, s4, by rw [take_succ' hz, List.all_append, hall]; simp [e]⟩
    have stop : ∀ H4, Same H H4 → rel1 own r j (c, b) = false → Q (.bl false) H4 := fun H4 s4 e => by
      have e2 : mayRel own k r j = false := List.all_eq_false.mpr ⟨(c, b), List.mem_of_getElem? hz, by rw [e]; exact Bool.false_ne_true⟩
      have q' := q H4 s4
      rw [e2] at q'
      exact q'
    obtain ⟨ca, rr, rfl, ht⟩ := hca3.word
    refine ⟨_, rfl, _, _, _, _, rfl, rfl, ht, atI_nat (j := 0) rfl, small2, fun p np => ⟨p, _, rfl, .inr (SqT.of upd_same), rfl, rfl, _, rfl, ?_⟩⟩
    have s4 := s3.trans (same_new (o := .tup [.int 6, .int 7]) np)
    have s34 : Same H3 (upd H3 p (.tup [.int 6, .int 7])) := same_new np
    generalize upd H3 p (.tup [.int 6, .int 7]) = H4 at s4 s34
    cases c with
    | top => exact iteF (iteF (go _ s4 rfl))
    | bot => exact iteF (iteF (go _ s4 rfl))
    | name n => exact iteF (iteF (go _ s4 rfl))
    | and c d => exact iteF (iteF (go _ s4 rfl))
    | or c d => exact iteF (iteF (go _ s4 rfl))
    | not c => exact iteF (iteF (go _ s4 rfl))
    | some m d =>
      obtain ⟨ca', u, e, h, hu⟩ := hca3
      cases e
      have h4 := sqT_ts s34.ts h
      refine iteT ?_
      refine ⟨_, rfl, _, _, _, _, rfl, rfl, h4, atI_nat (j := 1) rfl, _, rfl, rfl, _, rfl, ?_⟩
      by_cases hmr : m = r
      · subst hmr
        refine ite_eq rfl ?_
        refine ⟨_, rfl, _, rfl, _, _, _, _, rfl, rfl, h4, atI_nat (j := 0) rfl, rfl, rfl, _, rfl, ?_⟩
        cases b with
        | true => exact iteF (go _ s4 (by simp [rel1]))
        | false =>
          refine iteT ?_
          obtain ⟨dx4, lo4, hins4, _⟩ := hA.same s4
          refine ⟨_, rfl, o, dx4, _, rfl, hins4, lkn (by decide +kernel), _, rfl, _, rfl, _, _, _, _, rfl, rfl, h4, atI_nat (j := 2) rfl, ?_⟩
          refine ⟨o, jv, u, own, j, d, rfl, hA.same s4, hj.ts s4.ts, hu.ts s34.ts, ho.nd, hjl, cl_some hcl hm, ho.sm, sm_some ho.sm hm, Nat.le_refl _, fun H5 s5 => ?_⟩
          refine ⟨_, rfl, rfl, _, rfl, ?_⟩
          have e : rel1 own m j (.some m d, false) = !has own j d := by simp only [rel1]; cases has own j d <;> simp
          cases hv : has own j d with
          | false => exact iteF (go _ (s4.trans s5) (by rw [e, hv]; rfl))
          | true => exact iteT (stop _ (s4.trans s5) (by rw [e, hv]; rfl))
      · refine ite_en (fun z => hmr (by have := V.int.inj z; omega)) (iteF (go _ s4 (by simp [rel1, hmr])))
    | all m d =>
      obtain ⟨ca', u, e, h, hu⟩ := hca3
      cases e
      have h4 := sqT_ts s34.ts h
      refine iteT ?_
      refine ⟨_, rfl, _, _, _, _, rfl, rfl, h4, atI_nat (j := 1) rfl, _, rfl, rfl, _, rfl, ?_⟩
      by_cases hmr : m = r
      · subst hmr
        refine ite_eq rfl ?_
        refine ⟨_, rfl, _, rfl, _, _, _, _, rfl, rfl, h4, atI_nat (j := 0) rfl, rfl, rfl, _, rfl, ?_⟩
        cases b with
        | false => exact iteF (go _ s4 (by simp [rel1]))
        | true =>
          refine iteT ?_
          obtain ⟨dx4, lo4, hins4, _⟩ := hA.same s4
          refine ⟨_, rfl, o, dx4, _, rfl, hins4, lkn (by decide +kernel), _, rfl, _, rfl, _, _, _, _, rfl, rfl, h4, atI_nat (j := 2) rfl, ?_⟩
          refine ⟨o, jv, u, own, j, d, rfl, hA.same s4, hj.ts s4.ts, hu.ts s34.ts, ho.nd, hjl, cl_all hcl hm, ho.sm, sm_all ho.sm hm, Nat.le_refl _, fun H5 s5 => ?_⟩
          refine ⟨_, rfl, rfl, _, rfl, ?_⟩
          have e : rel1 own m j (.all m d, true) = has own j d := by simp only [rel1]; cases has own j d <;> simp
          cases hv : has own j d with
          | true => exact iteF (go _ (s4.trans s5) (by rw [e, hv]))
          | false => exact iteT (stop _ (s4.trans s5) (by rw [e, hv]))
      · refine ite_en (fun z => hmr (by have := V.int.inj z; omega)) (iteF (go _ s4 (by simp [rel1, hmr])))
  · rintro σ H' ⟨av, bv, rfl, s1, hall⟩
    have e : mayRel own k r j = true := by
      have e1 : (own.zip k).take own.length = own.zip k := List.take_of_length_le (by rw [List.length_zip]; omega)
      rw [e1] at hall
      exact hall
    have q' := q H' s1
    rw [e] at q'
    exact q'
end
end Ex
/-! is_shown, is_possible. -/
namespace Ex
open PySem PySem.Spec PyProof.Rows L2
open Oc (C)
open ExM (has sats every grow In InP Good valP ev rel1 mayRel shown poss)
section
variable {P : Program} {w : World} {K : PySem.W.Frag} {mg : Str → Option Value} {base : Heap}
def spShown (K : PySem.W.Frag) (cA : Addr) : Sp := fun vs H Q _ => ∃ (o a : Addr) (kv cv : V) (own : List C) (k : Kd) (c : C) (b : Bool) (ks : List Kd), vs = [.ref o, kv, cv, .bl b, .ref a] ∧ AtA K cA H own o ∧ KA K H k kv ∧ CA K H c cv ∧ LA (KA K) H a ks ∧
  OwnOk own ∧ ExM.Closed own ∧ k.length = own.length ∧ c ∈ own ∧ (∀ j ∈ ks, j.length = own.length) ∧ ks.length ≤ 1000 ∧ ∀ H', Same H H' → Q (.bl (shown own k ks (c, b))) H'
theorem ok_shown (T : Txt K mg) : FnOk P w K mg base CX0 33 T.a_shown T.d_shown ["self", "kind", "atom", "is_so", "others"] (spShown K T.c_Atoms) := by
  have G0 := ok_has (P := P) (w := w) (base := base) T 30
  have G1 := ok_mayRel (P := P) (w := w) (base := base) T
  refine T.f_shown.ok sc_shown (fun vs H Q E h => ?_) (fun cdv A outer s H vs Q E hr h => ?_)
  · obtain ⟨o, a, kv, cv, own, k, c, b, ks, rfl, _⟩ := h
    rfl
  obtain ⟨o, a, kv, cv, own, k, c, b, ks, rfl, hA, hk, hca, hks, ho, hcl, hkl, hm, hjl, hle, q⟩ := h
  have hr0 : Room 31 _ := hr.mono (by decide)
  refine ⟨_, pss_cons (ps_if (PW.pt (pw_or (pt_cmpR op_notIn_seq (pe_ix ix_tup (pv 2) pe_int (fun _ _ => rfl)) (pe_tup (pa_cons (gI T.k_SOME) (pa_cons (gI T.k_ALL) pa_nil))) rfl)
      (pw_or1 (pt_cmpR op_ne (pv 3) (pe_cmpR op_eq (pe_ix ix_tup (pv 2) pe_int (fun _ _ => rfl)) (gI T.k_SOME) (nomark _)) (nomark _))))) (pss_one (ps_ret pe_bl)) pss_nil)
    (pss_one (ps_ret (pe_callB (cr_any rfl) rfl T.z_any (by decide +kernel) (pa_cons
      (pe_lc (own := [("other", 5)]) (g := gName 5) (tt := tYes)
        (te := tAndV (tOp rEq (tMeth T.c_Atoms "has" (spHas K T.c_Atoms 30) [] E0 (tVar 0) (tCons (tVar 5) (tCons (tOp (rIxT K) (tVar 2) (tC (.int 2))) tNil))) (tVar 3))
          (tMeth T.c_Atoms "may_relate" (spRel K T.c_Atoms) [] E0 (tVar 0) (tCons (tVar 1) (tCons (tOp (rIxT K) (tVar 2) (tC (.int 1))) (tCons (tVar 5) tNil)))))
        rfl sc_shown.nd (pi_list (pv 4)) (blkOk_by (own := [("other", 5)]) (N := ["self", "kind", "atom", "is_so", "others", "other"]) (sc := defScope s_shown) (by decide +kernel))
        (fun _ _ _ _ _ => pg_name (i := 5) sc_shown.nd rfl (Or.inl rfl)) (fun _ _ _ _ _ => pts_nil)
        (fun _ _ _ _ _ => pe_and (pe_cmpR op_eq (pe_meth (pv 0) T.cl_Atoms T.m_has G0 hr0 T.b_has .nil pass0 (pa_cons (pv 5) (pa_cons (pe_ix ix_tup (pv 2) pe_int (fun _ _ => rfl)) pa_nil))) (pv 3) (nomark _))
          (pe_one (pe_meth (pv 0) T.cl_Atoms T.m_mayRel G1 hr T.b_mayRel .nil pass0 (pa_cons (pv 1) (pa_cons (pe_ix ix_tup (pv 2) pe_int (fun _ _ => rfl)) (pa_cons (pv 5) pa_nil))))))) pa_nil)))), ?_⟩
  obtain ⟨ca, rr, rfl, ht⟩ := hca.word
  refine ⟨_, rfl, _, _, _, _, rfl, rfl, ht, atI_nat (j := 0) rfl, small2, fun p np => ⟨p, _, rfl, .inr (SqT.of upd_same), rfl, rfl, _, rfl, ?_⟩⟩
  have s1 : Same H (upd H p (.tup [.int 6, .int 7])) := same_new np
  generalize upd H p (.tup [.int 6, .int 7]) = H1 at s1
  -- the comprehension, for an atom that wants an element
  have wants : ∀ (r : Nat) (d : C) (u : V) (x : Int), SqT K H ca [.int x, .int r, u] → CA K H d u → In own d → Sm d → shown own k ks (c, b) = (ks.any fun j => has own j d == b && mayRel own k r j) →
      tCB (rAny K) (tCons (tLc (iList K (tVar 4)) (gName 5) tYes (tAndV (tOp rEq (tMeth T.c_Atoms "has" (spHas K T.c_Atoms 30) [] E0 (tVar 0) (tCons (tVar 5) (tCons (tOp (rIxT K) (tVar 2) (tC (.int 2))) tNil))) (tVar 3))
          (tMeth T.c_Atoms "may_relate" (spRel K T.c_Atoms) [] E0 (tVar 0) (tCons (tVar 1) (tCons (tOp (rIxT K) (tVar 2) (tC (.int 1))) (tCons (tVar 5) tNil))))) [5]) tNil)
        [some (.ref o), some kv, some (.ref ca), some (.bl b), some (.ref a), none] H1 Q := fun r d u x h hu hi hsm e => by
    obtain ⟨us, hus, _⟩ := id hks
    refine ⟨_, rfl, a, rfl, ⟨us, SqL.of (s1 _ _ hus)⟩, fun D nD => lc_data (K := K) stK (hks.same stK s1) stB (fun _ => true) (fun j => has own j d == b && mayRel own k r j) nD (by omega) (fun j v H' hj s2 hv Yes No hy _ => ?_) fun H' s2 hD => ?_⟩
    · have s3 := s1.trans s2
      obtain ⟨dx, lo, hins, _⟩ := hA.same s3
      have h3 := sqT_ts s3.ts h
      refine ⟨rfl, ?_⟩
      refine ⟨_, rfl, o, dx, _, rfl, hins, lkn (by decide +kernel), _, rfl, _, rfl, _, _, _, _, rfl, rfl, h3, atI_nat (j := 2) rfl, ?_⟩
      refine ⟨o, v, u, own, j, d, rfl, hA.same s3, hv, hu.ts s3.ts, ho.nd, hjl j hj, hi, ho.sm, hsm, Nat.le_refl _, fun H4 s4 => ⟨_, rfl, rfl, _, rfl, ?_⟩⟩
      have e2 : decide (V.bl (has own j d) = V.bl b) = (has own j d == b) := dec_bl
      rw [e2]
      cases hb : (has own j d == b) with
      | false => exact iteF (hy rfl _ _ s4 (by rw [hb]; rfl))
      | true =>
        refine iteT ?_
        have s5 := s3.trans s4
        refine ⟨_, rfl, o, dx, _, rfl, s4 _ _ hins, lkn (by decide +kernel), _, rfl, _, rfl, _, _, _, _, rfl, rfl, sqT_ts s4.ts h3, atI_nat (j := 1) rfl, _, rfl, ?_⟩
        exact ⟨o, kv, v, own, k, j, r, rfl, hA.same s5, hk.ts s5.ts, hv.ts s4.ts, ho, hcl, hkl, hjl j hj, fun H6 s6 => hy rfl _ _ (s4.trans s6) (by rw [hb]; rfl)⟩
    · obtain ⟨vs, hvs, pvs⟩ := hD
      have e3 := paired_bl pvs
      refine ⟨D, _, rfl, SqL.of (by rw [hvs, e3]), ?_⟩
      have e4 : (((ks.filter fun _ => true).map fun j : Kd => has own j d == b && mayRel own k r j).any id) = shown own k ks (c, b) := by
        have e5 : ks.filter (fun _ => true) = ks := List.filter_eq_self.mpr fun _ _ => rfl
        rw [e5, List.any_map, e]
        rfl
      have q' := q _ (s1.trans s2)
      rw [← e4] at q'
      exact q'
  cases c with
  | top => exact iteT (iteT (q _ s1))
  | bot => exact iteT (iteT (q _ s1))
  | name n => exact iteT (iteT (q _ s1))
  | and c d => exact iteT (iteT (q _ s1))
  | or c d => exact iteT (iteT (q _ s1))
  | not c => exact iteT (iteT (q _ s1))
  | some m d =>
    obtain ⟨ca', u, e, h, hu⟩ := hca
    cases e
    refine iteF ?_
    refine ⟨_, rfl, _, rfl, _, _, _, _, rfl, rfl, sqT_ts s1.ts h, atI_nat (j := 0) rfl, rfl, rfl, _, rfl, ?_⟩
    cases b with
    | false => exact iteT (q _ s1)
    | true => exact iteF (wants m d u 6 h hu (cl_some hcl hm) (sm_some ho.sm hm) (by simp [ExM.shown]))
  | all m d =>
    obtain ⟨ca', u, e, h, hu⟩ := hca
    cases e
    refine iteF ?_
    refine ⟨_, rfl, _, rfl, _, _, _, _, rfl, rfl, sqT_ts s1.ts h, atI_nat (j := 0) rfl, rfl, rfl, _, rfl, ?_⟩
    cases b with
    | true => exact iteT (q _ s1)
    | false => exact iteF (wants m d u 7 h hu (cl_all hcl hm) (sm_all ho.sm hm) (by simp [ExM.shown]))
def spPoss (K : PySem.W.Frag) (cA : Addr) : Sp := fun vs H Q _ => ∃ (o a : Addr) (kv : V) (own : List C) (k : Kd) (ks : List Kd), vs = [.ref o, kv, .ref a] ∧ AtA K cA H own o ∧ KA K H k kv ∧ LA (KA K) H a ks ∧
  OwnOk own ∧ ExM.Closed own ∧ k.length = own.length ∧ (∀ j ∈ ks, j.length = own.length) ∧ ks.length ≤ 1000 ∧ ∀ H', Same H H' → Q (.bl (poss own ks k)) H'
theorem ok_poss (T : Txt K mg) : FnOk P w K mg base CX0 34 T.a_poss T.d_poss ["self", "kind", "others"] (spPoss K T.c_Atoms) := by
  have G := ok_shown (P := P) (w := w) (base := base) T
  refine T.f_poss.ok sc_poss (fun vs H Q E h => ?_) (fun cdv A outer s H vs Q E hr h => ?_)
  · obtain ⟨o, a, kv, own, k, ks, rfl, _⟩ := h
    rfl
  obtain ⟨o, a, kv, own, k, ks, rfl, hA, hk, hks, ho, hcl, hkl, hjl, hle, q⟩ := h
  refine ⟨_, pss_one (ps_ret (pe_callB (cr_all rfl) rfl T.z_all (by decide +kernel) (pa_cons
      (pe_lc (own := [("atom", 3), ("is_so", 4)]) (g := gTup K 2 (gCons (gName 3) (gCons (gName 4) gNil))) (tt := tYes) rfl sc_poss.nd (pi_zipM rfl T.z_zip (pa_cons (pe_fld (pv 0) rfl) (pa_cons (pv 1) pa_nil)))
        (blkOk_by (own := [("atom", 3), ("is_so", 4)]) (N := ["self", "kind", "others", "atom", "is_so"]) (sc := defScope s_poss) (by decide +kernel))
        (fun _ _ _ _ _ => pg_tup rfl (pgs_cons (pg_name (i := 3) sc_poss.nd rfl (Or.inl rfl)) (pgs_cons (pg_name (i := 4) sc_poss.nd rfl (Or.inl rfl)) pgs_nil))) (fun _ _ _ _ _ => pts_nil)
        (fun _ _ _ _ _ => pe_meth (pv 0) T.cl_Atoms T.m_shown G hr T.b_shown .nil pass0 (pa_cons (pv 1) (pa_cons (pv 3) (pa_cons (pv 4) (pa_cons (pv 2) pa_nil)))))) pa_nil))), ?_⟩
  obtain ⟨dx, lo, hins, hlo⟩ := id hA
  obtain ⟨ov, hov, pov⟩ := id hlo
  obtain ⟨ka, rfl, hkt⟩ := id hk
  have lov := paired_len pov
  have lkv : (k.map V.bl).length = own.length := by rw [List.length_map, hkl]
  refine ⟨_, rfl, o, T.c_Atoms, dx, _, _, rfl, hins, T.cl_Atoms, T.na_Atoms_own, lkh, _, rfl, lo, ka, ov, k.map V.bl, rfl, SqL.of hov, hkt, fun D nD => ?_⟩
  refine lc_by (walk_m (K := K) (n := own.length) lov.symm lkv) stB (fun i => ((own.zip k).take i).map (shown own k ks)) nD rfl (fun i hi => ?_) (fun H' s => ⟨SqL.of (s _ _ hov), sqT_ts s.ts hkt⟩) (fun i x H1 H2 hi s1 y Yes No hy _ => ?_) fun H' s1 hD => ?_
  · have h4 := ho.le
    rw [List.length_map, List.length_take]
    omega
  · obtain ⟨t, cv, bv, rfl, nt, rfl, hcv, hbv⟩ := y
    obtain ⟨c, hc, hca⟩ := paired_at pov hcv
    obtain ⟨b, hb, rfl⟩ := bl_at hbv
    have hz := zip_at hc hb
    have s2 : Same H1 (upd H1 t (.tup [cv, .bl b])) := same_new nt
    have s3 := s1.trans s2
    obtain ⟨dx3, lo3, hins3, _⟩ := hA.same s3
    refine ⟨t, _, rfl, SqT.of upd_same, rfl, cv, _, rfl, .bl b, _, rfl, rfl, rfl, ?_⟩
    refine ⟨_, rfl, o, dx3, _, rfl, hins3, lkn (by decide +kernel), _, rfl, _, rfl, _, rfl, _, rfl, ?_⟩
    exact ⟨o, a, _, cv, own, k, c, b, ks, rfl, hA.same s3, hk.ts s3.ts, hca.ts s3.ts, hks.same stK s3, ho, hcl, hkl, List.mem_of_getElem? hc, hjl, hle, fun H4 s4 => hy (shown own k ks (c, b)) _ _ (s2.trans s4) rfl (by rw [take_succ' hz, List.map_append]; rfl)⟩
  · obtain ⟨vs, hvs, pvs⟩ := hD
    have e3 := paired_bl pvs
    refine ⟨D, _, rfl, SqL.of (by rw [hvs, e3]), ?_⟩
    have e4 : ((((own.zip k).take own.length).map (shown own k ks)).all id) = poss own ks k := by
      have e1 : (own.zip k).take own.length = own.zip k := List.take_of_length_le (by rw [List.length_zip]; omega)
      rw [e1, List.all_map]
      rfl
    have q' := q _ s1
    rw [← e4] at q'
    exact q'
end
end Ex
/-! possible. -/
namespace Ex
open PySem PySem.Spec PyProof.Rows L2
open Oc (C)
open ExM (has sats every grow In InP Good valP ev rel1 mayRel poss kinds kinds0 fixF)
section
variable {P : Program} {w : World} {K : PySem.W.Frag} {mg : Str → Option Value} {base : Heap}
def spPossib (K : PySem.W.Frag) (cA : Addr) : Sp := fun vs H Q _ => ∃ (o a : Addr) (own : List C) (ax : List Rl), vs = [.ref o, .ref a] ∧ AtA K cA H own o ∧ LA (PA' K) H a ax ∧
  OwnOk own ∧ ExM.Closed own ∧ PrOk own ax ∧ ∀ (H' : Hp) (l : Addr), Same H H' → H l = none → LA (KA K) H' l (kinds own ax) → Q (.ref l) H'
theorem every_len (own : List C) : (every own).length = 2 ^ own.length := by
  unfold every
  rw [fold_len]
  exact Nat.mul_one _
structure Set1 (K : PySem.W.Frag) (H : Hp) (own : List C) (ax : List Rl) (o a : Addr) (m : Nat) (σ : L2.St) (H' : Hp) (fl bl : Addr) (f b : List Kd) : Prop where
  sl : σ = [some (.ref o), some (.ref a), some (.ref fl), some (.ref bl), none]
  sm : Same H H'
  nf : H fl = none
  lf : LA (KA K) H' fl f
  lb : LA (KA K) H' bl b
  eq : kinds own ax = fixF (poss own) f.length f
  st : b = [] ∨ f = b.filter (poss own b)
  ln : ∀ k ∈ f, k.length = own.length
  le : f.length ≤ 16
  me : m = f.length + (if f = b then 0 else 1)
theorem ok_possib (T : Txt K mg) : FnOk P w K mg base CX0 35 T.a_possib T.d_possib ["self", "axioms"] (spPossib K T.c_Atoms) := by
  have GE := ok_every (P := P) (w := w) (base := base) T
  have GS := ok_sat (P := P) (w := w) (base := base) T
  have GP := ok_poss (P := P) (w := w) (base := base) T
  refine T.f_possib.ok sc_possib (fun vs H Q E h => ?_) (fun cdv A outer s H vs Q E hr h => ?_)
  · obtain ⟨o, a, own, ax, rfl, _⟩ := h
    rfl
  obtain ⟨o, a, own, ax, rfl, hA, hax, ho, hcl, hp, q⟩ := h
  have hr1 : Room 1 _ := hr.mono (by decide)
  have hr2 : Room 32 _ := hr.mono (by decide)
  refine ⟨_, pss_cons (ps_asg (pe_tup (pa_cons
        (pe_lc (own := [("kind", 4)]) (g := gName 4) rfl sc_possib.nd (pi_list (pe_meth0 (pv 0) T.cl_Atoms T.m_every GE hr1 T.b_every .nil pass0))
          (blkOk_by (own := [("kind", 4)]) (N := ["self", "axioms", "found", "before", "kind"]) (sc := defScope s_possib) (by decide +kernel))
          (fun _ _ _ _ _ => pg_name (i := 4) sc_possib.nd rfl (Or.inl rfl))
          (fun _ _ _ _ _ => pts_one (pt_val (pe_meth (pv 0) T.cl_Atoms T.m_sat GS hr2 T.b_sat .nil pass0 (pa_cons (pv 4) (pa_cons (pv 1) pa_nil)))))
          (fun _ _ _ _ _ => pv 4)) (pa_cons (pe_lst pa_nil) pa_nil)))
      (pg_tup rfl (pgs_cons (pg_name (i := 2) sc_possib.nd rfl (Or.inl rfl)) (pgs_cons (pg_name (i := 3) sc_possib.nd rfl (Or.inr rfl)) pgs_nil))))
    (pss_cons (ps_while PassesOwn.never (pt_cmpR (op_neD (hu64 hr)) (pv 2) (pv 3) (nomark _))
      (pss_cons (ps_set (i := 3) sc_possib.nd rfl (Or.inr rfl) (pv 2))
      (pss_one (ps_setLc (i := 2) (own := [("kind", 4)]) (g := gName 4) rfl sc_possib.nd rfl rfl (sw_true rfl rfl rfl (by decide +kernel)) (pi_list (pv 3))
          (blkOk_by (own := [("kind", 4)]) (N := ["self", "axioms", "found", "before", "kind"]) (sc := defScope s_possib) (by decide +kernel))
          (fun _ _ _ _ _ => pg_name (i := 4) sc_possib.nd rfl (Or.inl rfl))
          (fun _ _ _ _ _ => pts_one (pt_val (pe_meth (pv 0) T.cl_Atoms T.m_poss GP hr T.b_poss .nil pass0 (pa_cons (pv 4) (pa_cons (pv 3) pa_nil)))))
          (fun _ _ _ _ _ => pv 4)))))
    (pss_one (ps_ret (pv 2)))), ?_⟩
  have h16 : (2 : Nat) ^ own.length ≤ 2 ^ 4 := Nat.pow_le_pow_right (by decide) ho.le
  have elen := every_len own
  obtain ⟨dx, lo, hins, _⟩ := id hA
  -- the first comprehension
  refine ⟨_, rfl, o, dx, _, rfl, hins, lkn (by decide +kernel), ?_⟩
  refine ⟨o, own, rfl, hA, ho, fun H1 el s1 nel hel => ?_⟩
  obtain ⟨ev, hev, _⟩ := id hel
  refine ⟨el, rfl, ⟨ev, SqL.of hev⟩, fun D nD => lc_data (K := K) stK hel (stK (K := K)) (fun k => sats own k ax) (fun k => k) nD (by omega) (fun k v H' hk s2 hv Yes No hy hno => ?_) fun H2 s2 hD => ?_⟩
  · have s3 := s1.trans s2
    obtain ⟨dx3, lo3, hins3, _⟩ := hA.same s3
    refine ⟨rfl, ?_⟩
    refine ⟨_, rfl, o, dx3, _, rfl, hins3, lkn (by decide +kernel), _, rfl, _, rfl, ?_⟩
    refine ⟨o, a, v, own, k, ax, rfl, hA.same s3, hv, hax.same stP s3, ho, (ExM.every_mem own k).mp hk, hp, fun H4 s4 => ⟨_, rfl, ?_⟩⟩
    cases e : sats own k ax with
    | true => exact iteT ⟨_, rfl, hy e v H4 s4 (hv.ts s4.ts)⟩
    | false => exact iteF (hno e H4 s4)
  · have s3 := s1.trans s2
    have nD0 : H D = none := s1.free nD
    have e0 : ((every own).filter fun k => sats own k ax).map (fun k => k) = kinds0 own ax := List.map_id' _
    rw [e0] at hD
    refine ⟨(by decide : 0 ≤ sizeLine), fun bl nb => ⟨small2, fun t nt => ?_⟩⟩
    have s4 := (s3.trans (same_new (o := .lst []) nb)).trans (same_new (o := .tup [.ref D, .ref bl]) nt)
    have s24 : Same H2 _ := (same_new (o := .lst []) nb).trans (same_new (o := .tup [.ref D, .ref bl]) nt)
    refine ⟨t, _, rfl, SqT.of upd_same, rfl, .ref D, _, rfl, .ref bl, _, rfl, rfl, ?_⟩
    have hD4 := hD.same stK s24
    have hb4 : LA (KA K) (upd (upd H2 bl (.lst [])) t (.tup [.ref D, .ref bl])) bl [] := la_nil (by rw [upd_ne (ne_of_none upd_same nt)]; exact upd_same)
    generalize upd (upd H2 bl (.lst [])) t (.tup [.ref D, .ref bl]) = H4 at s4 hD4 hb4
    have k0 := List.length_filter_le (fun k => sats own k ax) (every own)
    refine ⟨fun m σ H' => ∃ fl bl f b, Set1 K H own ax o a m σ H' fl bl f b, ⟨_, D, bl, kinds0 own ax, [], rfl, s4, nD0, hD4, hb4, rfl, .inl rfl, fun k hk => (ExM.every_mem own k).mp (List.mem_filter.mp hk).1, by unfold kinds0; omega, rfl⟩, ?_⟩
    rintro m σ H5 ⟨fl, bl, f, b, g⟩
    obtain ⟨rfl, s5, nf, hf, hb, heq, hst, hln, hle, rfl⟩ := g
    refine ⟨_, rfl, _, rfl, _, _, hf.list_dp (fun _ _ r => r.dp), hb.list_dp (f := dK) (fun _ _ r => r.dp), dKs_shaped f, dKs_shaped b, _, rfl, ?_⟩
    rw [list_apart dK_apart]
    by_cases hfb : f = b
    · subst hfb
      refine iteNS rfl ?_
      refine ⟨_, rfl, q H5 fl s5 nf ?_⟩
      have e : kinds own ax = f := by
        rw [heq]
        refine ExM.fixF_stop ?_
        rcases hst with h | h
        · rw [h]; rfl
        · exact h.symm
      rw [e]
      exact hf
    · have ht : (!decide (f = b)) = true := by rw [decide_eq_false hfb]; rfl
      rw [ht]
      refine iteT ⟨fun σ' H' => ∃ m', m' < f.length + (if f = b then 0 else 1) ∧ ∃ fl bl f' b', Set1 K H own ax o a m' σ' H' fl bl f' b', fun σ' H' h => h, ?_⟩
      refine ⟨_, rfl, ?_⟩
      obtain ⟨fv, hfv, _⟩ := id hf
      refine ⟨_, rfl, fl, rfl, ⟨fv, SqL.of hfv⟩, fun D2 nD2 => lc_data (K := K) stK hf (stK (K := K)) (fun k => poss own f k) (fun k => k) nD2 (by omega) (fun k v H' hk s6 hv Yes No hy hno => ?_) fun H6 s6 hD6 => ?_⟩
      · have s7 := s5.trans s6
        obtain ⟨dx3, lo3, hins3, _⟩ := hA.same s7
        refine ⟨rfl, ?_⟩
        refine ⟨_, rfl, o, dx3, _, rfl, hins3, lkn (by decide +kernel), _, rfl, _, rfl, ?_⟩
        refine ⟨o, fl, v, own, k, f, rfl, hA.same s7, hv, hf.same stK s6, ho, hcl, hln k hk, hln, by omega, fun H8 s8 => ⟨_, rfl, ?_⟩⟩
        cases e : poss own f k with
        | true => exact iteT ⟨_, rfl, hy e v H8 s8 (hv.ts s8.ts)⟩
        | false => exact iteF (hno e H8 s8)
      · have e6 : (f.filter fun k => poss own f k).map (fun k => k) = f.filter (poss own f) := List.map_id' _
        rw [e6] at hD6
        have l6 := List.length_filter_le (poss own f) f
        have hm : (f.filter (poss own f)).length + (if f.filter (poss own f) = f then 0 else 1) < f.length + (if f = b then 0 else 1) := by
          rw [if_neg hfb]
          by_cases e : f.filter (poss own f) = f
          · rw [if_pos e, e]; omega
          · rw [if_neg e]
            have := ExM.filter_lt e
            omega
        refine ⟨_, hm, D2, fl, f.filter (poss own f), f, rfl, s5.trans s6, s5.free nD2, hD6, hf.same stK s6, ?_, .inr rfl, fun k hk => hln k (List.mem_filter.mp hk).1, by omega, rfl⟩
        rw [heq]
        by_cases e : f.filter (poss own f) = f
        · rw [e]
        · have k1 := ExM.filter_lt e
          have k2 : f.length = (f.length - 1) + 1 := by omega
          rw [k2, ExM.fixF_go e]
          exact ExM.fixF_fuel _ _ _ _ (by omega) (Nat.le_refl _)
end
end Ex
/-! Models. -/
namespace Ex
open PySem PySem.Spec PyProof.Rows L2
open Oc (C)
open ExM (has sats every grow In InP Good valP ev rel1 mayRel poss kinds kinds0 fixF someHave)
theorem fixF_len {α : Type} (p : List α → α → Bool) : ∀ (n : Nat) (l : List α), (fixF p n l).length ≤ l.length
  | 0, l => Nat.le_refl _
  | n + 1, l => by
    by_cases e : l.filter (p l) = l
    · rw [ExM.fixF_stop e]; exact Nat.le_refl _
    · rw [ExM.fixF_go e]
      have k1 := ExM.filter_lt e
      have k2 := fixF_len p n (l.filter (p l))
      omega
/-- the atoms and the axioms of a ranking -/
structure CtxOk (own : List C) (ax : List Rl) : Prop where
  ow : OwnOk own
  cl : ExM.Closed own
  pr : PrOk own ax
theorem CtxOk.good {own : List C} {ax : List Rl} (c : CtxOk own ax) : Good own := ⟨c.ow.nd, c.cl⟩
theorem CtxOk.klen {own : List C} {ax : List Rl} (c : CtxOk own ax) : (kinds own ax).length ≤ 16 := by
  have h1 := fixF_len (poss own) (kinds0 own ax).length (kinds0 own ax)
  have h2 := List.length_filter_le (fun k => sats own k ax) (every own)
  have h3 := every_len own
  have h4 : (2 : Nat) ^ own.length ≤ 2 ^ 4 := Nat.pow_le_pow_right (by decide) c.ow.le
  unfold kinds
  unfold kinds0 at h1 ⊢
  omega
theorem kinds_len {own : List C} {ax : List Rl} {k : Kd} (h : k ∈ kinds own ax) : k.length = own.length :=
  (ExM.every_mem own k).mp (List.mem_filter.mp (ExM.fixF_sub _ _ _ _ h)).1
/-- a Models object -/
def MoA (K : PySem.W.Frag) (cA cM : Addr) (H : Hp) (own : List C) (ax : List Rl) (m : Addr) : Prop := ∃ dx o kl, H m = some (.ins cM dx [("atoms", .ref o), ("kinds", .ref kl)]) ∧ AtA K cA H own o ∧ LA (KA K) H kl (kinds own ax)
theorem MoA.same {K : PySem.W.Frag} {cA cM m : Addr} {H H' : Hp} {own : List C} {ax : List Rl} (s : Same H H') : MoA K cA cM H own ax m → MoA K cA cM H' own ax m := fun ⟨dx, o, kl, h, q, r⟩ => ⟨dx, o, kl, s _ _ h, q.same s, r.same stK s⟩
theorem AtA.at {K : PySem.W.Frag} {cA o p : Addr} {H H' : Hp} {own : List C} (t : TS H H') (k : ∀ b ob, H b = some ob → b ≠ p → H' b = some ob) (hp : o ≠ p) (hl : ∀ l vs, H l = some (.lst vs) → l ≠ p) : AtA K cA H own o → AtA K cA H' own o := fun ⟨dx, l, h, vs, e, q⟩ =>
  ⟨dx, l, k _ _ h hp, vs, k _ _ e (hl l vs e), paired_imp (fun _ _ r => r.ts t) q⟩
section
variable {P : Program} {w : World} {K : PySem.W.Frag} {mg : Str → Option Value} {base : Heap}
def spMoI (K : PySem.W.Frag) (cA cM : Addr) : Sp := fun vs H Q _ => ∃ (p dx o a : Addr) (own : List C) (ax : List Rl), vs = [.ref p, .ref o, .ref a] ∧ H p = some (.ins cM dx []) ∧ AtA K cA H own o ∧ LA (PA' K) H a ax ∧ CtxOk own ax ∧ cA ≠ cM ∧
  ∀ H' : Hp, MoA K cA cM H' own ax p → (∀ b ob, H b = some ob → b ≠ p → H' b = some ob) → Q .non H'
theorem ok_moI (T : Txt K mg) : FnOk P w K mg base CX0 36 T.a_moI T.d_moI ["self", "atoms", "axioms"] (spMoI K T.c_Atoms T.c_Models) := by
  have G := ok_possib (P := P) (w := w) (base := base) T
  refine T.f_moI.ok sc_moI (fun vs H Q E h => ?_) (fun cdv A outer s H vs Q E hr h => ?_)
  · obtain ⟨p, dx, o, a, own, ax, rfl, _⟩ := h
    rfl
  obtain ⟨p, dx, o, a, own, ax, rfl, hp, hA, hax, hc, hne, q⟩ := h
  refine ⟨_, pss_cons (ps_fld (pv 0) (pv 1) rfl) (pss_one (ps_fld (pv 0) (pe_meth (pv 1) T.cl_Atoms T.m_possib G hr T.b_possib .nil pass0 (pa_cons (pv 2) pa_nil)) rfl)), ?_⟩
  have nl : ∀ l vs, H l = some (.lst vs) → l ≠ p := fun l vs h => ne_of h hp (by intro z; cases z)
  have nop : o ≠ p := by
    obtain ⟨d, l, h, _⟩ := hA
    exact ne_of h hp (by intro z; exact hne (HO.ins.inj z).1)
  refine ⟨_, rfl, _, rfl, p, T.c_Models, dx, [], rfl, hp, T.cl_Models, T.na_Models_atoms, (by show 0 < 1000; decide), ?_⟩
  have t1 : TS H (upd H p (.ins T.c_Models dx (putF "atoms" (.ref o) []))) := TS.ins hp
  have k1 : ∀ b ob, H b = some ob → b ≠ p → upd H p (.ins T.c_Models dx (putF "atoms" (.ref o) [])) b = some ob := fun b ob e hb => by rw [upd_ne hb]; exact e
  have hA1 := hA.at t1 k1 nop nl
  have hax1 : LA (PA' K) _ a ax := hax.at stP t1 (by obtain ⟨vs, e, _⟩ := hax; exact upd_ne (nl _ _ e))
  have hp1 : upd H p (.ins T.c_Models dx (putF "atoms" (.ref o) [])) p = some (.ins T.c_Models dx [("atoms", .ref o)]) := upd_same
  generalize upd H p (.ins T.c_Models dx (putF "atoms" (.ref o) [])) = H1 at t1 k1 hA1 hax1 hp1
  obtain ⟨dx1, lo1, hins1, _⟩ := id hA1
  refine ⟨_, rfl, o, dx1, _, rfl, hins1, lkn (by decide +kernel), _, rfl, ?_⟩
  refine ⟨o, a, own, ax, rfl, hA1, hax1, hc.ow, hc.cl, hc.pr, fun H2 kl s2 nkl hkl => ?_⟩
  have hp2 := s2 _ _ hp1
  refine ⟨_, rfl, p, T.c_Models, dx, _, rfl, hp2, T.cl_Models, T.na_Models_kinds, (by show 1 < 1000; decide), ?_⟩
  have t3 : TS H2 (upd H2 p (.ins T.c_Models dx (putF "kinds" (.ref kl) [("atoms", .ref o)]))) := TS.ins hp2
  have nl2 : ∀ l vs, H2 l = some (.lst vs) → l ≠ p := fun l vs h => ne_of h hp2 (by intro z; cases z)
  have e2 : putF ("kinds" : Str) (V.ref kl) [(("atoms" : Str), V.ref o)] = ([(("atoms" : Str), V.ref o), (("kinds" : Str), V.ref kl)] : List (Str × V)) := (putp (by decide +kernel)).trans rfl
  refine q _ ⟨dx, o, kl, by rw [upd_same, e2], (hA1.same s2).at t3 (fun b ob e hb => by rw [upd_ne hb]; exact e) nop nl2, hkl.at stK t3 (by obtain ⟨vs, e, _⟩ := hkl; exact upd_ne (nl2 _ _ e))⟩ fun b ob e hb => by
    rw [upd_ne hb]
    exact s2 _ _ (k1 b ob e hb)
def spSome (K : PySem.W.Frag) (cA cM : Addr) : Sp := fun vs H Q _ => ∃ (m r : Addr) (cv : V) (own : List C) (ax rules : List Rl) (c : C), vs = [.ref m, cv, .ref r] ∧ MoA K cA cM H own ax m ∧ CA K H c cv ∧ LA (PA' K) H r rules ∧
  CtxOk own ax ∧ In own c ∧ Sm c ∧ PrOk own rules ∧ ∀ (H' : Hp) (l : Addr), Same H H' → H l = none → LA (KA K) H' l (someHave own (kinds own ax) c rules) → Q (.ref l) H'
theorem ok_some (T : Txt K mg) : FnOk P w K mg base CX0 33 T.a_some T.d_some ["self", "concept", "rules"] (spSome K T.c_Atoms T.c_Models) := by
  have G0 := ok_has (P := P) (w := w) (base := base) T 30
  have GS := ok_sat (P := P) (w := w) (base := base) T
  refine T.f_some.ok sc_some (fun vs H Q E h => ?_) (fun cdv A outer s H vs Q E hr h => ?_)
  · obtain ⟨m, r, cv, own, ax, rules, c, rfl, _⟩ := h
    rfl
  obtain ⟨m, r, cv, own, ax, rules, c, rfl, hM, hc, hr', hx, hi, hsm, hp, q⟩ := h
  have hr0 : Room 31 _ := hr.mono (by decide)
  refine ⟨_, pss_one (ps_ret (pe_lc (own := [("kind", 3)]) (g := gName 3)
      (tt := tAnd (tB (tMeth T.c_Atoms "has" (spHas K T.c_Atoms 30) [] E0 (tFld K (tVar 0) "atoms") (tCons (tVar 3) (tCons (tVar 1) tNil)))) (tB (tMeth T.c_Atoms "satisfies" (spSat K T.c_Atoms) [] E0 (tFld K (tVar 0) "atoms") (tCons (tVar 3) (tCons (tVar 2) tNil)))))
      rfl sc_some.nd (pi_list (pe_fld (pv 0) rfl))
      (blkOk_by (own := [("kind", 3)]) (N := ["self", "concept", "rules", "kind"]) (sc := defScope s_some) (by decide +kernel))
      (fun _ _ _ _ _ => pg_name (i := 3) sc_some.nd rfl (Or.inl rfl))
      (fun _ _ _ _ _ => pts_one (PW.pt (pw_and (pt_val (pe_meth (pe_fld (pv 0) rfl) T.cl_Atoms T.m_has G0 hr0 T.b_has .nil pass0 (pa_cons (pv 3) (pa_cons (pv 1) pa_nil))))
        (pw_and1 (pt_val (pe_meth (pe_fld (pv 0) rfl) T.cl_Atoms T.m_sat GS hr T.b_sat .nil pass0 (pa_cons (pv 3) (pa_cons (pv 2) pa_nil))))))))
      (fun _ _ _ _ _ => pv 3))), ?_⟩
  obtain ⟨dx, o, kl, hins, hA, hkl⟩ := id hM
  obtain ⟨kv, hkv, _⟩ := id hkl
  have k16 := hx.klen
  refine ⟨_, rfl, m, T.c_Models, dx, _, _, rfl, hins, T.cl_Models, T.na_Models_kinds, (lkp (by decide +kernel)).trans lkh, kl, rfl, ⟨kv, SqL.of hkv⟩, fun D nD => ?_⟩
  refine lc_data (K := K) stK hkl (stK (K := K)) (fun k => has own k c && sats own k rules) (fun k => k) nD (by omega) (fun k v H' hk s1 hv Yes No hy hno => ?_) fun H1 s1 hD => q H1 D s1 nD ?_
  · have hkl' := kinds_len hk
    obtain ⟨dx1, lo1, hins1, _⟩ := hA.same s1
    refine ⟨rfl, ?_⟩
    refine ⟨_, rfl, m, T.c_Models, dx, _, _, rfl, s1 _ _ hins, T.cl_Models, T.na_Models_atoms, lkh, o, dx1, _, rfl, hins1, lkn (by decide +kernel), _, rfl, _, rfl, ?_⟩
    refine ⟨o, v, cv, own, k, c, rfl, hA.same s1, hv, hc.ts s1.ts, hx.ow.nd, hkl', hi, hx.ow.sm, hsm, Nat.le_refl _, fun H2 s2 => ⟨_, rfl, ?_⟩⟩
    cases e : has own k c with
    | false => exact iteF (iteF (hno (by rw [e]; rfl) _ s2))
    | true =>
      refine iteT ?_
      have s3 := s1.trans s2
      refine ⟨_, rfl, m, T.c_Models, dx, _, _, rfl, s3 _ _ hins, T.cl_Models, T.na_Models_atoms, lkh, o, dx1, _, rfl, s2 _ _ hins1, lkn (by decide +kernel), _, rfl, _, rfl, ?_⟩
      refine ⟨o, r, v, own, k, rules, rfl, hA.same s3, hv.ts s2.ts, hr'.same stP s3, hx.ow, hkl', hp, fun H4 s4 => ⟨_, rfl, ?_⟩⟩
      cases e2 : sats own k rules with
      | false => exact iteF (hno (by rw [e, e2]; rfl) _ (s2.trans s4))
      | true => exact iteT ⟨_, rfl, hy (by rw [e, e2]; rfl) v H4 (s2.trans s4) (hv.ts (s2.trans s4).ts)⟩
  · have e : ((kinds own ax).filter fun k => has own k c && sats own k rules).map (fun k => k) = someHave own (kinds own ax) c rules := List.map_id' _
    rw [e] at hD
    exact hD
end
end Ex
/-! is_exceptional, does_follow, next_rank, ranks_until. -/
namespace Ex
open PySem PySem.Spec PyProof.Rows L2
open Oc (C)
open ExM (has sats every grow In InP Good valP ev rel1 mayRel poss kinds kinds0 fixF someHave rk)
theorem PrOk.sub {own : List C} {l m : List Rl} (h : PrOk own l) (k : ∀ a ∈ m, a ∈ l) (le : m.length ≤ l.length) : PrOk own m := ⟨h.inp.sub k, fun r hr => h.sm r (k r hr), Nat.le_trans le h.le⟩
theorem PrOk.left {own : List C} {ax l : List Rl} (h : PrOk own l) : PrOk own (Oc07.left ax l) := h.sub (ExM.left_sub ax l) (List.length_filter_le _ _)
theorem PrOk.nil {own : List C} : PrOk own [] := ⟨fun _ h => (nomatch h), fun _ h => (nomatch h), Nat.zero_le _⟩
section
variable {P : Program} {w : World} {K : PySem.W.Frag} {mg : Str → Option Value} {base : Heap}
def spExc (K : PySem.W.Frag) (cA cM : Addr) : Sp := fun vs H Q _ => ∃ (m r : Addr) (cv : V) (own : List C) (ax rules : List Rl) (c : C), vs = [.ref m, cv, .ref r] ∧ MoA K cA cM H own ax m ∧ CA K H c cv ∧ LA (PA' K) H r rules ∧
  CtxOk own ax ∧ In own c ∧ Sm c ∧ PrOk own rules ∧ ∀ H' : Hp, Same H H' → Q (.bl (Oc07.strange ax rules c)) H'
theorem ok_exc (T : Txt K mg) : FnOk P w K mg base CX0 34 T.a_exc T.d_exc ["self", "concept", "rules"] (spExc K T.c_Atoms T.c_Models) := by
  have G := ok_some (P := P) (w := w) (base := base) T
  refine T.f_exc.ok sc_exc (fun vs H Q E h => ?_) (fun cdv A outer s H vs Q E hr h => ?_)
  · obtain ⟨m, r, cv, own, ax, rules, c, rfl, _⟩ := h
    rfl
  obtain ⟨m, r, cv, own, ax, rules, c, rfl, hM, hc, hr', hx, hi, hsm, hp, q⟩ := h
  refine ⟨_, pss_one (ps_ret (pe_cmpR (op_eqD (hu64 hr)) (pe_meth (pv 0) T.cl_Models T.m_some G hr T.b_some .nil pass0 (pa_cons (pv 1) (pa_cons (pv 2) pa_nil))) (pe_lst pa_nil) (nomark _))), ?_⟩
  obtain ⟨dx, o, kl, hins, _⟩ := id hM
  refine ⟨_, rfl, m, dx, _, rfl, hins, lkn2 (by decide +kernel) (by decide +kernel), _, rfl, _, rfl, ?_⟩
  refine ⟨m, r, cv, own, ax, rules, c, rfl, hM, hc, hr', hx, hi, hsm, hp, fun H1 l s1 nl hl => ⟨(by decide : 0 ≤ sizeLine), fun p np => ?_⟩⟩
  refine ⟨_, _, (hl.same stK (same_new np)).list_dp (fun _ _ r => r.dp), (la_nil (R := KA K) upd_same).list_dp (f := dK) (fun _ _ r => r.dp), dKs_shaped _, dKs_shaped [], ?_⟩
  rw [list_apart dK_apart, ExM.exc_eq hx.good hx.pr.inp hp.inp hi]
  exact q _ (s1.trans (same_new np))
def spFol (K : PySem.W.Frag) (cA cM : Addr) : Sp := fun vs H Q _ => ∃ (m r : Addr) (cv dv : V) (own : List C) (ax rules : List Rl) (c d : C), vs = [.ref m, cv, .ref r, dv] ∧ MoA K cA cM H own ax m ∧ CA K H c cv ∧ CA K H d dv ∧ LA (PA' K) H r rules ∧
  CtxOk own ax ∧ In own c ∧ Sm c ∧ In own d ∧ Sm d ∧ PrOk own rules ∧ ∀ H' : Hp, Same H H' → Q (.bl (Oc.under ax (.and c (Oc07.all_ rules)) d)) H'
theorem ok_follow (T : Txt K mg) : FnOk P w K mg base CX0 34 T.a_follow T.d_follow ["self", "concept", "rules", "other"] (spFol K T.c_Atoms T.c_Models) := by
  have G := ok_some (P := P) (w := w) (base := base) T
  have G0 := ok_has (P := P) (w := w) (base := base) T 30
  refine T.f_follow.ok sc_follow (fun vs H Q E h => ?_) (fun cdv A outer s H vs Q E hr h => ?_)
  · obtain ⟨m, r, cv, dv, own, ax, rules, c, d, rfl, _⟩ := h
    rfl
  obtain ⟨m, r, cv, dv, own, ax, rules, c, d, rfl, hM, hc, hd, hr', hx, hi, hsm, hi2, hsm2, hp, q⟩ := h
  have hr0 : Room 31 _ := hr.mono (by decide)
  refine ⟨_, pss_one (ps_ret (pe_callB (cr_all rfl) rfl T.z_all (by decide +kernel) (pa_cons
      (pe_lc (own := [("kind", 4)]) (g := gName 4) (tt := tYes) (te := tMeth T.c_Atoms "has" (spHas K T.c_Atoms 30) [] E0 (tFld K (tVar 0) "atoms") (tCons (tVar 4) (tCons (tVar 3) tNil)))
        rfl sc_follow.nd (pi_list (pe_meth (pv 0) T.cl_Models T.m_some G hr T.b_some .nil pass0 (pa_cons (pv 1) (pa_cons (pv 2) pa_nil))))
        (blkOk_by (own := [("kind", 4)]) (N := ["self", "concept", "rules", "other", "kind"]) (sc := defScope s_follow) (by decide +kernel))
        (fun _ _ _ _ _ => pg_name (i := 4) sc_follow.nd rfl (Or.inl rfl)) (fun _ _ _ _ _ => pts_nil)
        (fun _ _ _ _ _ => pe_meth (pe_fld (pv 0) rfl) T.cl_Atoms T.m_has G0 hr0 T.b_has .nil pass0 (pa_cons (pv 4) (pa_cons (pv 3) pa_nil)))) pa_nil))), ?_⟩
  obtain ⟨dx, o, kl, hins, hA, _⟩ := id hM
  have k16 := hx.klen
  refine ⟨_, rfl, m, dx, _, rfl, hins, lkn2 (by decide +kernel) (by decide +kernel), _, rfl, _, rfl, ?_⟩
  refine ⟨m, r, cv, own, ax, rules, c, rfl, hM, hc, hr', hx, hi, hsm, hp, fun H1 l s1 nl hl => ?_⟩
  obtain ⟨us, hus, _⟩ := id hl
  have lsh := List.length_filter_le (fun k => has own k c && sats own k rules) (kinds own ax)
  refine ⟨l, rfl, ⟨us, SqL.of hus⟩, fun D nD => lc_data (K := K) stK hl stB (fun _ => true) (fun k => has own k d) nD (by unfold someHave; omega) (fun k v H' hk s2 hv Yes No hy _ => ?_) fun H2 s2 hD => ?_⟩
  · have s3 := s1.trans s2
    obtain ⟨dx1, lo1, hins1, _⟩ := hA.same s3
    refine ⟨rfl, ?_⟩
    refine ⟨_, rfl, m, T.c_Models, dx, _, _, rfl, s3 _ _ hins, T.cl_Models, T.na_Models_atoms, lkh, o, dx1, _, rfl, hins1, lkn (by decide +kernel), _, rfl, _, rfl, ?_⟩
    exact ⟨o, v, dv, own, k, d, rfl, hA.same s3, hv, hd.ts s3.ts, hx.ow.nd, kinds_len (List.mem_filter.mp hk).1, hi2, hx.ow.sm, hsm2, Nat.le_refl _, fun H4 s4 => hy rfl _ _ s4 rfl⟩
  · obtain ⟨vs, hvs, pvs⟩ := hD
    have e3 := paired_bl pvs
    refine ⟨D, _, rfl, SqL.of (by rw [hvs, e3]), ?_⟩
    have e4 : ((((someHave own (kinds own ax) c rules).filter fun _ => true).map fun k : Kd => has own k d).all id) = Oc.under ax (.and c (Oc07.all_ rules)) d := by
      have e5 : (someHave own (kinds own ax) c rules).filter (fun _ => true) = someHave own (kinds own ax) c rules := List.filter_eq_self.mpr fun _ _ => rfl
      rw [e5, List.all_map, ← ExM.follow_eq hx.good hx.pr.inp hp.inp hi hi2]
      rfl
    have q' := q _ (s1.trans s2)
    rw [← e4] at q'
    exact q'
def spNext (K : PySem.W.Frag) (cA cM : Addr) : Sp := fun vs H Q _ => ∃ (m r : Addr) (own : List C) (ax rules : List Rl), vs = [.ref m, .ref r] ∧ MoA K cA cM H own ax m ∧ LA (PA' K) H r rules ∧
  CtxOk own ax ∧ PrOk own rules ∧ ∀ (H' : Hp) (l : Addr), Same H H' → H l = none → LA (PA' K) H' l (Oc07.left ax rules) → Q (.ref l) H'
theorem ok_next (T : Txt K mg) : FnOk P w K mg base CX0 35 T.a_next T.d_next ["self", "rules"] (spNext K T.c_Atoms T.c_Models) := by
  have G := ok_exc (P := P) (w := w) (base := base) T
  refine T.f_next.ok sc_next (fun vs H Q E h => ?_) (fun cdv A outer s H vs Q E hr h => ?_)
  · obtain ⟨m, r, own, ax, rules, rfl, _⟩ := h
    rfl
  obtain ⟨m, r, own, ax, rules, rfl, hM, hr', hx, hp, q⟩ := h
  refine ⟨_, pss_one (ps_ret (pe_lc (own := [("rule", 2)]) (g := gName 2)
      (tt := tB (tMeth T.c_Models "is_exceptional" (spExc K T.c_Atoms T.c_Models) [] E0 (tVar 0) (tCons (tOp (rIxT K) (tVar 2) (tC (.int 0))) (tCons (tVar 1) tNil))))
      rfl sc_next.nd (pi_list (pv 1)) (blkOk_by (own := [("rule", 2)]) (N := ["self", "rules", "rule"]) (sc := defScope s_next) (by decide +kernel))
      (fun _ _ _ _ _ => pg_name (i := 2) sc_next.nd rfl (Or.inl rfl))
      (fun _ _ _ _ _ => pts_one (pt_val (pe_meth (pv 0) T.cl_Models T.m_exc G hr T.b_exc .nil pass0 (pa_cons (pe_ix ix_tup (pv 2) pe_int (fun _ _ => rfl)) (pa_cons (pv 1) pa_nil)))))
      (fun _ _ _ _ _ => pv 2))), ?_⟩
  obtain ⟨dx, o, kl, hins, _⟩ := id hM
  obtain ⟨us, hus, _⟩ := id hr'
  have h10 := hp.le
  refine ⟨_, rfl, r, rfl, ⟨us, SqL.of hus⟩, fun D nD => lc_data (K := K) stP hr' (stP (K := K)) (fun x => Oc07.strange ax rules x.1) (fun x => x) nD (by omega) (fun x v H' hx' s1 hv Yes No hy hno => ?_) fun H1 s1 hD => q H1 D s1 nD ?_⟩
  · obtain ⟨t, u, u2, rfl, ht, hu, hu2⟩ := id hv
    refine ⟨rfl, ?_⟩
    refine ⟨_, rfl, m, dx, _, rfl, s1 _ _ hins, lkn2 (by decide +kernel) (by decide +kernel), _, rfl, _, _, _, _, rfl, rfl, ht, atI_nat (j := 0) rfl, _, rfl, ?_⟩
    refine ⟨m, r, u, own, ax, rules, x.1, rfl, hM.same s1, hu, hr'.same stP s1, hx, (hp.inp x hx').1, (hp.sm x hx').1, hp, fun H2 s2 => ⟨_, rfl, ?_⟩⟩
    cases e : Oc07.strange ax rules x.1 with
    | true => exact iteT ⟨_, rfl, hy e _ H2 s2 (hv.ts s2.ts)⟩
    | false => exact iteF (hno e H2 s2)
  · have e : (rules.filter fun x => Oc07.strange ax rules x.1).map (fun x => x) = Oc07.left ax rules := List.map_id' _
    rw [e] at hD
    exact hD
/-! ### lists of lists -/
theorem paired_snocG {α β : Type} {R : α → β → Prop} : ∀ {l : List α} {c : α} {vs : List β}, Paired R (l ++ [c]) vs → ∃ v0 v, vs = v0 ++ [v] ∧ Paired R l v0 ∧ R c v
  | [], c, vs, h => by
    cases h with
    | cons r t =>
      cases t
      exact ⟨[], _, rfl, .nil, r⟩
  | a :: l, c, vs, h => by
    cases h with
    | cons r t =>
      obtain ⟨v0, v, e, p, q⟩ := paired_snocG t
      exact ⟨_ :: v0, v, by rw [e]; rfl, .cons r p, q⟩
theorem paired_appG {α β : Type} {R : α → β → Prop} : ∀ {l m : List α} {vs ws : List β}, Paired R l vs → Paired R m ws → Paired R (l ++ m) (vs ++ ws)
  | _, _, _, _, .nil, s => s
  | _, _, _, _, .cons r t, s => .cons r (paired_appG t s)
theorem paired_mem {α β : Type} {R S : α → β → Prop} : ∀ {l : List α} {vs : List β}, (∀ a v, v ∈ vs → R a v → S a v) → Paired R l vs → Paired S l vs
  | _, _, _, .nil => .nil
  | _, _, h, .cons r t => .cons (h _ _ List.mem_cons_self r) (paired_mem (fun a v hv => h a v (List.mem_cons_of_mem _ hv)) t)
theorem paired_lenG {α β : Type} {R : α → β → Prop} : ∀ {l : List α} {vs : List β}, Paired R l vs → l.length = vs.length
  | _, _, .nil => rfl
  | _, _, .cons _ t => congrArg Nat.succ (paired_lenG t)
/-- at fl a list of lists of rules, none of which stands at fl -/
def RkA (K : PySem.W.Frag) (H : Hp) (fl : Addr) (ls : List (List Rl)) : Prop := ∃ as : List Addr, H fl = some (.lst (as.map V.ref)) ∧ fl ∉ as ∧ Paired (fun l a => LA (PA' K) H a l) ls as
theorem RkA.same {H H' : Hp} {fl : Addr} {ls : List (List Rl)} (s : Same H H') : RkA K H fl ls → RkA K H' fl ls := fun ⟨as, h, n, p⟩ => ⟨as, s _ _ h, n, paired_mem (fun _ _ _ q => q.same stP s) p⟩
theorem RkA.app {H : Hp} {fl a : Addr} {ls : List (List Rl)} {l : List Rl} {as : List Addr} (h : H fl = some (.lst (as.map V.ref))) (n : fl ∉ as) (p : Paired (fun l a => LA (PA' K) H a l) ls as) (ha : LA (PA' K) H a l) (na : a ≠ fl) :
    RkA K (upd H fl (.lst (as.map V.ref ++ [.ref a]))) fl (ls ++ [l]) := by
  have t : TS H (upd H fl (.lst (as.map V.ref ++ [.ref a]))) := TS.lst h
  refine ⟨as ++ [a], by rw [upd_same, List.map_append]; rfl, fun z => ?_, paired_appG (paired_mem (fun x y hy q => q.at stP t (upd_ne fun e => n (e ▸ hy))) p) (.cons (ha.at stP t (upd_ne na)) .nil)⟩
  rcases List.mem_append.mp z with z | z
  · exact n z
  · exact na (List.mem_singleton.mp z).symm
def spUntil (K : PySem.W.Frag) (cA cM : Addr) : Sp := fun vs H Q _ => ∃ (m r : Addr) (own : List C) (ax rules : List Rl), vs = [.ref m, .ref r] ∧ MoA K cA cM H own ax m ∧ LA (PA' K) H r rules ∧
  CtxOk own ax ∧ PrOk own rules ∧ ∀ (H' : Hp) (l : Addr), Same H H' → H l = none → RkA K H' l (rk ax rules) → Q (.ref l) H'
structure Unt (K : PySem.W.Frag) (H : Hp) (own : List C) (ax rules : List Rl) (m r fl : Addr) (n : Nat) (σ : L2.St) (H' : Hp) (ll : Addr) (pre : List (List Rl)) (cur : List Rl) : Prop where
  sl : σ = [some (.ref m), some (.ref r), some (.ref fl), some (.ref ll)]
  sm : Same H H'
  lf : RkA K H' fl (pre ++ [cur])
  lz : LA (PA' K) H' ll (Oc07.left ax cur)
  ne : ll ≠ fl
  eq : rk ax rules = pre ++ rk ax cur
  pr : PrOk own cur
  le : pre.length + cur.length ≤ rules.length
  me : n = cur.length
theorem ok_until (T : Txt K mg) : FnOk P w K mg base CX0 36 T.a_until T.d_until ["models", "rules"] (spUntil K T.c_Atoms T.c_Models) := by
  have G := ok_next (P := P) (w := w) (base := base) T
  refine T.f_until.ok sc_until (fun vs H Q E h => ?_) (fun cdv A outer s H vs Q E hr h => ?_)
  · obtain ⟨m, r, own, ax, rules, rfl, _⟩ := h
    rfl
  obtain ⟨m, r, own, ax, rules, rfl, hM, hr', hx, hp, q⟩ := h
  refine ⟨_, pss_cons (ps_set (i := 2) sc_until.nd rfl (Or.inl rfl) (pe_lst (pa_cons (pv 1) pa_nil)))
    (pss_cons (ps_set (i := 3) sc_until.nd rfl (Or.inl rfl) (pe_meth (pv 0) T.cl_Models T.m_next G hr T.b_next .nil pass0 (pa_cons (pv 1) pa_nil)))
    (pss_cons (ps_while PassesOwn.never (pt_cmpR (op_neD (hu64 hr)) (pv 3) (pe_ix ix_list (pv 2) (pe_un un_neg pe_int) (fun _ _ => rfl)) (nomark _))
      (pss_cons (ps_expr (pe_bm PySem.F.plainAttrs_list PySem.F.slot_list_append PySem.F.type_list_append mt_append (pv 2) (pa_cons (pv 3) pa_nil)))
      (pss_one (ps_set (i := 3) sc_until.nd rfl (Or.inl rfl) (pe_meth (pv 0) T.cl_Models T.m_next G hr T.b_next .nil pass0 (pa_cons (pv 3) pa_nil))))))
    (pss_one (ps_ret (pv 2))))), ?_⟩
  obtain ⟨dx, o, kl, hins, _⟩ := id hM
  refine ⟨_, rfl, small1, fun fl nf => ?_⟩
  have s1 : Same H (upd H fl (.lst [.ref r])) := same_new nf
  have nrf : r ≠ fl := by
    obtain ⟨us, hus, _⟩ := hr'
    exact ne_of_none hus nf
  have hf1 : RkA K (upd H fl (.lst [.ref r])) fl [rules] := ⟨[r], upd_same, fun z => nrf (List.mem_singleton.mp z).symm, .cons (hr'.same stP s1) .nil⟩
  have hff : upd H fl (.lst [.ref r]) fl ≠ none := by rw [upd_same]; intro z; cases z
  generalize upd H fl (.lst [.ref r]) = H1 at s1 hf1 hff
  refine ⟨_, rfl, m, dx, _, rfl, s1 _ _ hins, lkn2 (by decide +kernel) (by decide +kernel), _, rfl, ?_⟩
  refine ⟨m, r, own, ax, rules, rfl, hM.same s1, hr'.same stP s1, hx, hp, fun H2 ll s2 nll hll => ?_⟩
  refine ⟨fun n σ H' => ∃ ll pre cur, Unt K H own ax rules m r fl n σ H' ll pre cur, ⟨_, ll, [], rules, rfl, s1.trans s2, hf1.same s2, hll, fun e => hff (e ▸ nll), rfl, hp, by simp, rfl⟩, ?_⟩
  rintro n σ H3 ⟨ll, pre, cur, g⟩
  obtain ⟨rfl, s3, hf, hl, hne, heq, hpc, hle, rfl⟩ := g
  obtain ⟨as, has, hna, pas⟩ := id hf
  obtain ⟨a0, ca, rfl, pa0, hca⟩ := paired_snocG pas
  have hat : atI ((a0 ++ [ca]).map V.ref) (-1) = some (.ref ca) := by
    rw [List.map_append]
    exact atI_last _ _
  refine ⟨_, rfl, _, rfl, _, rfl, fl, _, _, _, rfl, rfl, SqL.of has, hat, ?_⟩
  refine ⟨_, _, hl.list_dp (fun _ _ r => r.dp), hca.list_dp (f := dR) (fun _ _ r => r.dp), dRs_shaped (hpc.left (ax := ax)).sm, dRs_shaped hpc.sm, _, rfl, ?_⟩
  rw [list_apart dR_apart]
  by_cases he : Oc07.left ax cur = cur
  · have ht : (!decide (Oc07.left ax cur = cur)) = false := by rw [decide_eq_true he]; rfl
    rw [ht]
    refine iteF ⟨_, rfl, q H3 fl s3 nf ?_⟩
    rw [heq, ExM.rk_stop he]
    exact hf
  · have ht : (!decide (Oc07.left ax cur = cur)) = true := by rw [decide_eq_false he]; rfl
    rw [ht]
    have hlt := ExM.left_lt he
    refine iteT ⟨fun σ' H' => ∃ n', n' < cur.length ∧ ∃ ll pre cur', Unt K H own ax rules m r fl n' σ' H' ll pre cur', fun σ' H' h => h, ?_⟩
    have hlen := paired_lenG pas
    have h10 := hp.le
    rw [List.length_append, List.length_append] at hlen
    simp only [List.length_singleton] at hlen
    refine ⟨_, rfl, .inl ⟨rfl, _, SqL.of has⟩, _, rfl, fl, _, _, rfl, rfl, has, line_big (by rw [List.length_map, List.length_append, List.length_singleton]; omega), ?_⟩
    have s4 := same_upd (o := .lst ((a0 ++ [ca]).map V.ref ++ [.ref ll])) s3 nf
    have hf4 := RkA.app has hna pas hl hne
    have hl4 : LA (PA' K) (upd H3 fl (.lst ((a0 ++ [ca]).map V.ref ++ [.ref ll]))) ll (Oc07.left ax cur) := hl.at stP (TS.lst has) (upd_ne hne)
    have hff4 : upd H3 fl (.lst ((a0 ++ [ca]).map V.ref ++ [.ref ll])) fl ≠ none := by rw [upd_same]; intro z; cases z
    generalize upd H3 fl (.lst ((a0 ++ [ca]).map V.ref ++ [.ref ll])) = H4 at s4 hf4 hl4 hff4
    refine ⟨_, rfl, m, dx, _, rfl, s4 _ _ hins, lkn2 (by decide +kernel) (by decide +kernel), _, rfl, ?_⟩
    refine ⟨m, ll, own, ax, Oc07.left ax cur, rfl, hM.same s4, hl4, hx, hpc.left, fun H5 l5 s5 n5 h5 => ?_⟩
    refine ⟨_, hlt, l5, pre ++ [cur], Oc07.left ax cur, rfl, s4.trans s5, hf4.same s5, h5, fun e => hff4 (e ▸ n5), ?_, hpc.left, ?_, rfl⟩
    · rw [heq, ExM.rk_go he, List.append_assoc]
      rfl
    · rw [List.length_append, List.length_singleton]
      omega
end
end Ex
/-! Ranking: __init__. -/
namespace Ex
open PySem PySem.Spec PyProof.Rows L2
open Oc (C)
open ExM (has sats every grow In InP Good valP ev rel1 mayRel poss kinds kinds0 fixF someHave rk rd gone others)
/-! ### plain -/
theorem rk_sub (ax : List Rl) : ∀ (n : Nat) (l : List Rl), l.length ≤ n → ∀ x ∈ rk ax l, List.Sublist x l
  | 0, l, h => by
    have e : l = [] := List.eq_nil_of_length_eq_zero (Nat.le_zero.mp h)
    subst e
    intro x hx
    have e2 : rk ax [] = [[]] := ExM.rk_stop rfl
    rw [e2] at hx
    rw [List.mem_singleton.mp hx]
    exact List.Sublist.refl _
  | n + 1, l, h => by
    intro x hx
    by_cases e : Oc07.left ax l = l
    · rw [ExM.rk_stop e] at hx
      rw [List.mem_singleton.mp hx]
      exact List.Sublist.refl _
    · rw [ExM.rk_go e] at hx
      have k := ExM.left_lt e
      rcases List.mem_cons.mp hx with q | q
      · rw [q]; exact List.Sublist.refl _
      · exact (rk_sub ax n _ (by omega) x q).trans (List.filter_sublist)
theorem any_rule (m : List Rl) (x : Rl) : (m.map dR).any (fun z => PyData.eqv z (dR x)) = m.contains x := by
  rw [any_apart dR_apart, Bool.eq_iff_iff]
  simp
theorem ref_inj : ∀ {a b : List Addr}, a.map V.ref = b.map V.ref → a = b
  | [], [], _ => rfl
  | [], _ :: _, h => by cases h
  | _ :: _, [], h => by cases h
  | x :: a, y :: b, h => by
    obtain ⟨h1, h2⟩ := List.cons.inj h
    rw [V.ref.inj h1, ref_inj h2]
theorem split_len {α : Type} (q : α → Bool) : ∀ l : List α, (l.filter fun x => !q x).length + (l.filter q).length = l.length
  | [] => rfl
  | a :: l => by
    have ih := split_len q l
    cases e : q a with
    | true =>
      rw [List.filter_cons_of_neg (by simp [e]), List.filter_cons_of_pos e, List.length_cons, List.length_cons]
      omega
    | false =>
      rw [List.filter_cons_of_pos (by simp [e]), List.filter_cons_of_neg (by simp [e]), List.length_cons, List.length_cons]
      omega
theorem others_le {l m : List Rl} (h : List.Sublist m l) : (others l m).length + m.length ≤ l.length := by
  have h1 : (m.filter fun x => m.contains x).Sublist (l.filter fun x => m.contains x) := h.filter _
  have h2 : m.filter (fun x => m.contains x) = m := List.filter_eq_self.mpr fun x hx => by simp [hx]
  rw [h2] at h1
  have h3 := h1.length_le
  have h5 := split_len (fun x => m.contains x) l
  show (l.filter fun x => !m.contains x).length + m.length ≤ l.length
  omega
theorem cut_last (xs : List V) (x : V) : cutV (xs ++ [x]) none (some (-1)) = xs := by
  have e1 : HT.sIx (xs ++ [x]).length 0 none = 0 := rfl
  have e2 : HT.sIx (xs ++ [x]).length (xs ++ [x]).length (some (-1)) = xs.length := by
    show (if (-1 : Int) < 0 then ((-1 : Int) + ((xs ++ [x]).length : Int)).toNat else min (-1 : Int).toNat (xs ++ [x]).length) = _
    rw [if_pos (by omega), List.length_append, List.length_singleton]
    omega
  unfold cutV
  rw [e1, e2, List.drop_zero, Nat.sub_zero, List.take_left]
theorem PrOk.app {own : List C} {l m : List Rl} (h1 : PrOk own l) (h2 : PrOk own m) (h : l.length + m.length ≤ 10) : PrOk own (l ++ m) :=
  ⟨fun a ha => (List.mem_append.mp ha).elim (h1.inp a) (h2.inp a), fun a ha => (List.mem_append.mp ha).elim (h1.sm a) (h2.sm a), by rw [List.length_append]; exact h⟩
theorem PrOk.gone {own : List C} {m : List Rl} (h : PrOk own m) : PrOk own (gone m) :=
  ⟨ExM.in_gone h.inp, fun a ha => by
    obtain ⟨x, hx, e⟩ := List.mem_map.mp ha
    rw [← e]
    exact ⟨(h.sm x hx).1, by show sz C.bot ≤ 30; decide⟩, by unfold ExM.gone; rw [List.length_map]; exact h.le⟩
/-- what a ranking is -/
structure BkOk (own : List C) (b : List Rl × List (List Rl)) : Prop where
  cx : CtxOk own b.1
  rs : ∀ l ∈ b.2, PrOk own l
  le : b.2.length ≤ 10
/-! ### heaps: an instance is changed -/
section
variable {K : PySem.W.Frag} {H : Hp} {p c dx : Addr} {fs fs' : List (Str × V)} (hp : H p = some (.ins c dx fs))
include hp
theorem LA.ui {α : Type} {R : Hp → α → V → Prop} (st : Stays R) {a : Addr} {l : List α} (h : LA R H a l) : LA R (upd H p (.ins c dx fs')) a l := by
  obtain ⟨vs, e, q⟩ := id h
  exact h.at st (TS.ins hp) (upd_ne (ne_of e hp (by intro z; cases z)))
theorem AtA.ui {cA o : Addr} {own : List C} (n : c ≠ cA) (h : AtA K cA H own o) : AtA K cA (upd H p (.ins c dx fs')) own o := by
  obtain ⟨d, l, e, q⟩ := h
  exact ⟨d, l, (upd_ne (ne_of e hp (by intro z; exact n (HO.ins.inj z).1.symm))).trans e, q.ui hp stC⟩
theorem MoA.ui {cA cM m : Addr} {own : List C} {ax : List Rl} (n : c ≠ cA) (n2 : c ≠ cM) (h : MoA K cA cM H own ax m) : MoA K cA cM (upd H p (.ins c dx fs')) own ax m := by
  obtain ⟨d, o, kl, e, q, r⟩ := h
  exact ⟨d, o, kl, (upd_ne (ne_of e hp (by intro z; exact n2 (HO.ins.inj z).1.symm))).trans e, q.ui hp n, r.ui hp stK⟩
theorem RkA.ui {fl : Addr} {ls : List (List Rl)} (h : RkA K H fl ls) : RkA K (upd H p (.ins c dx fs')) fl ls := by
  obtain ⟨as, e, n, q⟩ := h
  exact ⟨as, (upd_ne (ne_of e hp (by intro z; cases z))).trans e, n, paired_mem (fun _ _ _ r => r.ui hp stP) q⟩
end
/-- all but what stands at p is as it was -/
def KB (H H' : Hp) (p : Addr) : Prop := ∀ b ob, H b = some ob → b ≠ p → H' b = some ob
theorem KB.of {H H' : Hp} {p : Addr} (s : Same H H') : KB H H' p := fun b ob e _ => s b ob e
theorem KB.trans {H H1 H2 : Hp} {p : Addr} (a : KB H H1 p) (b : KB H1 H2 p) : KB H H2 p := fun c ob e h => b c ob (a c ob e h) h
theorem KB.up {H : Hp} {p : Addr} {o : HO} : KB H (upd H p o) p := fun b ob e h => by rw [upd_ne h]; exact e
def RaA (K : PySem.W.Frag) (cA cM cR : Addr) (H : Hp) (own : List C) (b : List Rl × List (List Rl)) (p : Addr) : Prop := ∃ dx mo rl, H p = some (.ins cR dx [("models", .ref mo), ("ranks", .ref rl)]) ∧ MoA K cA cM H own b.1 mo ∧ RkA K H rl b.2
theorem RaA.same {K : PySem.W.Frag} {cA cM cR p : Addr} {H H' : Hp} {own : List C} {b : List Rl × List (List Rl)} (s : Same H H') : RaA K cA cM cR H own b p → RaA K cA cM cR H' own b p := fun ⟨dx, mo, rl, h, q, r⟩ => ⟨dx, mo, rl, s _ _ h, q.same s, r.same s⟩
section
variable {P : Program} {w : World} {K : PySem.W.Frag} {mg : Str → Option Value} {base : Heap}
def spRaI (K : PySem.W.Frag) (cA cM cR : Addr) : Sp := fun vs H Q _ => ∃ (p dx o a r : Addr) (own : List C) (ax rules : List Rl), vs = [.ref p, .ref o, .ref a, .ref r] ∧ H p = some (.ins cR dx []) ∧ AtA K cA H own o ∧ LA (PA' K) H a ax ∧ LA (PA' K) H r rules ∧
  CtxOk own ax ∧ PrOk own rules ∧ ax.length + rules.length ≤ 10 ∧
  ∀ H' : Hp, RaA K cA cM cR H' own (Oc07.book ax rules) p → BkOk own (Oc07.book ax rules) → KB H H' p → Q .non H'
/-- between two turns -/
structure Rkg (K : PySem.W.Frag) (cA cM cR : Addr) (H : Hp) (own : List C) (ax rules : List Rl) (p dx o a r : Addr) (n : Nat) (σ : L2.St) (H' : Hp) (fi le fo mo : Addr) (gv : Option V) (fin lft : List Rl) : Prop where
  sl : σ = [some (.ref p), some (.ref o), some (.ref a), some (.ref r), some (.ref fi), some (.ref le), some (.ref fo), gv, none]
  kb : KB H H' p
  hp : H' p = some (.ins cR dx [("models", .ref mo)])
  hA : AtA K cA H' own o
  hf : LA (PA' K) H' fi fin
  hl : LA (PA' K) H' le lft
  hM : MoA K cA cM H' own fin mo
  hr : RkA K H' fo (rk fin lft)
  eq : rd ax rules = rd fin lft
  cx : CtxOk own fin
  pl : PrOk own lft
  sm : fin.length + lft.length ≤ 10
  me : n = lft.length
/-- self.models = Models(..): the heaps -/
structure Stp (K : PySem.W.Frag) (cA cM cR : Addr) (H H5 : Hp) (own : List C) (fin lft : List Rl) (p dx o fi le mo : Addr) : Prop where
  kb : KB H H5 p
  hp : H5 p = some (.ins cR dx [("models", .ref mo)])
  hA : AtA K cA H5 own o
  hf : LA (PA' K) H5 fi fin
  hl : LA (PA' K) H5 le lft
  hM : MoA K cA cM H5 own fin mo
theorem stp {cA cM cR : Addr} {H H3 H4 : Hp} {own : List C} {fin lft : List Rl} {p dx o fi le x : Addr} {fs : List (Str × V)} (kb : KB H H3 p) (hp : H3 p = some (.ins cR dx fs)) (hput : putF ("models" : Str) (.ref x) fs = [(("models" : Str), V.ref x)])
    (hA : AtA K cA H3 own o) (hf : LA (PA' K) H3 fi fin) (hl : LA (PA' K) H3 le lft) (s4 : Same H3 H4) (hM4 : MoA K cA cM H4 own fin x) (n1 : cR ≠ cA) (n2 : cR ≠ cM) :
    H4 p = some (.ins cR dx fs) ∧ Stp K cA cM cR H (upd H4 p (.ins cR dx (putF "models" (.ref x) fs))) own fin lft p dx o fi le x := by
  have hp4 := s4 _ _ hp
  exact ⟨hp4, (kb.trans (KB.of s4)).trans KB.up, by rw [upd_same, hput], (hA.same s4).ui hp4 n1, (hf.same stP s4).ui hp4 stP, (hl.same stP s4).ui hp4 stP, hM4.ui hp4 n1 n2⟩
theorem ok_raI (T : Txt K mg) : FnOk P w K mg base CX0 38 T.a_raI T.d_raI ["self", "atoms", "axioms", "rules"] (spRaI K T.c_Atoms T.c_Models T.c_Ranking) := by
  have GM := ok_moI (P := P) (w := w) (base := base) T
  have GU := ok_until (P := P) (w := w) (base := base) T
  refine T.f_raI.ok sc_raI (fun vs H Q E h => ?_) (fun cdv A outer s H vs Q E hr h => ?_)
  · obtain ⟨p, dx, o, a, r, own, ax, rules, rfl, _⟩ := h
    rfl
  obtain ⟨p, dx, o, a, r, own, ax, rules, rfl, hp, hA, hax, hru, hcx, hpr, h10, q⟩ := h
  have hrU : Room 36 _ := hr.mono (by decide)
  refine ⟨_, pss_cons (ps_par (i := 4) (j := 5) (by rfl) sc_raI.nd rfl rfl (by decide) rfl rfl (pa_cons (pe_callTy call_list_of rfl T.z_list (by decide +kernel) (pa_cons (pv 2) pa_nil)) (pa_cons (pe_callTy call_list_of rfl T.z_list (by decide +kernel) (pa_cons (pv 3) pa_nil)) pa_nil)) (by rfl))
    (pss_cons (ps_fld (pv 0) (pe_make T.m_moI GM hr rfl T.gc_Models T.b_moI .nil pass0 (pa_cons (pv 1) (pa_cons (pv 4) pa_nil))) rfl)
    (pss_cons (ps_set (i := 6) sc_raI.nd rfl (Or.inl rfl) (pe_call GU hrU rfl T.g_until T.f_until.kp T.b_until .nil pass0 (pa_cons (pe_fld (pv 0) rfl) (pa_cons (pv 5) pa_nil))))
    (pss_cons (ps_while PassesOwn.never (pt_cmpR (op_neD (hu64 hr)) (pe_ix ix_list (pv 6) (pe_un un_neg pe_int) (fun _ _ => rfl)) (pe_lst pa_nil) (nomark _))
      (pss_cons (ps_set (i := 7) sc_raI.nd rfl (Or.inr rfl) (pe_ix ix_list (pv 6) (pe_un un_neg pe_int) (fun _ _ => rfl)))
      (pss_cons (ps_set (i := 4) sc_raI.nd rfl (Or.inl rfl) (pe_op op_cat (pv 4)
        (pe_lc (own := [("rule", 8)]) (g := gName 8) (tt := tYes) (te := tTup (tCons (tOp (rIxT K) (tVar 8) (tC (.int 0))) (tCons (tC (.ref T.none_)) tNil))) rfl sc_raI.nd (pi_list (pv 7))
          (blkOk_by (own := [("rule", 8)]) (N := ["self", "atoms", "axioms", "rules", "final", "left", "found", "gone", "rule"]) (sc := defScope s_raI) (by decide +kernel))
          (fun _ _ _ _ _ => pg_name (i := 8) sc_raI.nd rfl (Or.inl rfl)) (fun _ _ _ _ _ => pts_nil)
          (fun _ _ _ _ _ => pe_tup (pa_cons (pe_ix ix_tup (pv 8) pe_int (fun _ _ => rfl)) (pa_cons (pe_glob rfl T.g_NONE rfl) pa_nil))))))
      (pss_cons (ps_setLc (i := 5) (own := [("rule", 8)]) (g := gName 8) (tt := tTest (tOp (rNotInD K) (tVar 8) (tVar 7))) rfl sc_raI.nd rfl rfl (sw_true rfl rfl rfl (by decide +kernel)) (pi_list (pv 5))
          (blkOk_by (own := [("rule", 8)]) (N := ["self", "atoms", "axioms", "rules", "final", "left", "found", "gone", "rule"]) (sc := defScope s_raI) (by decide +kernel))
          (fun _ _ _ _ _ => pg_name (i := 8) sc_raI.nd rfl (Or.inl rfl))
          (fun _ _ _ _ _ => pts_one (pt_cmpR (op_notInD (hu65 hr)) (pv 8) (pv 7) rfl)) (fun _ _ _ _ _ => pv 8))
      (pss_cons (ps_fld (pv 0) (pe_make T.m_moI GM hr rfl T.gc_Models T.b_moI .nil pass0 (pa_cons (pv 1) (pa_cons (pv 4) pa_nil))) rfl)
      (pss_one (ps_set (i := 6) sc_raI.nd rfl (Or.inl rfl) (pe_call GU hrU rfl T.g_until T.f_until.kp T.b_until .nil pass0 (pa_cons (pe_fld (pv 0) rfl) (pa_cons (pv 5) pa_nil))))))))))
    (pss_one (ps_fld (pv 0) (pe_slice sl_list (pv 6) po_none (po_some (pe_un un_neg pe_int))) rfl))))), ?_⟩
  obtain ⟨av, hav, pav⟩ := hax
  obtain ⟨rv, hrv, prv⟩ := hru
  refine ⟨_, rfl, a, av, rfl, .inl (SqL.of hav), fun fi nfi => ?_⟩
  have s1 : Same H (upd H fi (.lst av)) := same_new nfi
  refine ⟨_, rfl, r, rv, rfl, .inl (SqL.of (s1 _ _ hrv)), fun le nle => ⟨_, _, rfl, ?_⟩⟩
  have s2 : Same H (upd (upd H fi (.lst av)) le (.lst rv)) := s1.trans (same_new nle)
  have hf2 : LA (PA' K) (upd (upd H fi (.lst av)) le (.lst rv)) fi ax := ⟨av, by rw [upd_ne (ne_of_none upd_same nle)]; exact upd_same, paired_imp (fun _ _ q => q.ts s2.ts) pav⟩
  have hl2 : LA (PA' K) (upd (upd H fi (.lst av)) le (.lst rv)) le rules := ⟨rv, upd_same, paired_imp (fun _ _ q => q.ts s2.ts) prv⟩
  have hA2 := hA.same s2
  have hp2 := s2 _ _ hp
  generalize upd (upd H fi (.lst av)) le (.lst rv) = H2 at s2 hf2 hl2 hA2 hp2
  -- self.models = Models(atoms, final); found = ranks_until(self.models, left)
  refine ⟨_, rfl, _, rfl, fun x xd nx nd nxd => ?_⟩
  have sx : Same H2 (upd (upd H2 xd (.own x)) x (.ins T.c_Models xd [])) := (same_new nd).trans (same_new (by rw [upd_ne (Ne.symm nxd)]; exact nx))
  refine ⟨x, xd, o, fi, own, ax, rfl, upd_same, hA2.same sx, hf2.same stP sx, hcx, T.ne_AM, fun H4 hM4 kx => ⟨rfl, ?_⟩⟩
  have s4 : Same H2 H4 := Same.made nx nd kx
  obtain ⟨hp4, g⟩ := stp (KB.of s2) hp2 rfl hA2 hf2 hl2 s4 hM4 T.ne_AR T.ne_MR
  refine ⟨_, rfl, p, T.c_Ranking, dx, _, rfl, hp4, T.cl_Ranking, T.na_Ranking_models, (by show 0 < 1000; decide), ?_⟩
  generalize upd H4 p (.ins T.c_Ranking dx (putF "models" (.ref x) [])) = H5 at g
  refine ⟨_, rfl, p, T.c_Ranking, dx, _, _, rfl, g.hp, T.cl_Ranking, T.na_Ranking_models, lkh, _, rfl, ?_⟩
  refine ⟨x, le, own, ax, rules, rfl, g.hM, g.hl, hcx, hpr, fun H6 fo s6 _ hfo => ?_⟩
  -- while found[-1] != []
  refine ⟨fun n σ H' => ∃ fi le fo mo gv fin lft, Rkg K T.c_Atoms T.c_Models T.c_Ranking H own ax rules p dx o a r n σ H' fi le fo mo gv fin lft,
    ⟨_, fi, le, fo, x, none, ax, rules, rfl, g.kb.trans (KB.of s6), s6 _ _ g.hp, g.hA.same s6, g.hf.same stP s6, g.hl.same stP s6, g.hM.same s6, hfo, rfl, hcx, hpr, h10, rfl⟩, ?_⟩
  clear hfo s6 g hp4 s4 kx hM4 sx nxd nd nx hp2 hA2 hl2 hf2 s2
  rintro n σ H7 ⟨fi, le, fo, mo, gv, fin, lft, g⟩
  obtain ⟨rfl, kb, hp7, hA7, hf7, hl7, hM7, hr7, heq, hcx7, hpl, hsm, rfl⟩ := g
  obtain ⟨pre, m, hrk, hpre, hml, hprl, hplen⟩ := ExM.rk_last fin lft.length lft (Nat.le_refl _)
  have hmsub : List.Sublist m lft := rk_sub fin lft.length lft (Nat.le_refl _) m (by rw [hrk]; exact List.mem_append_right _ (List.mem_singleton.mpr rfl))
  have hpm : PrOk own m := hpl.sub hml hmsub.length_le
  rw [hrk] at hr7
  obtain ⟨as, has, hna, pas⟩ := id hr7
  obtain ⟨a0, ma, rfl, pa0, hma⟩ := paired_snocG pas
  have hat : atI ((a0 ++ [ma]).map V.ref) (-1) = some (.ref ma) := by
    rw [List.map_append]
    exact atI_last _ _
  refine ⟨_, rfl, _, rfl, fo, _, _, _, rfl, rfl, SqL.of has, hat, (by decide : 0 ≤ sizeLine), fun t nt => ?_⟩
  have s8 : Same H7 (upd H7 t (.lst [])) := same_new nt
  refine ⟨_, _, (hma.same stP s8).list_dp (fun _ _ r => r.dp), (la_nil (R := PA' K) upd_same).list_dp (f := dR) (fun _ _ r => r.dp), dRs_shaped hpm.sm, dRs_shaped (l := []) (by simp), _, rfl, ?_⟩
  rw [list_apart dR_apart]
  have kb8 := kb.trans (KB.of (p := p) s8)
  have hp8 := s8 _ _ hp7
  have hA8 := hA7.same s8
  have hf8 := hf7.same stP s8
  have hl8 := hl7.same stP s8
  have hM8 := hM7.same s8
  have hr8 := hr7.same s8
  have has8 := s8 _ _ has
  have hma8 := hma.same stP s8
  generalize upd H7 t (.lst []) = H8 at s8 kb8 hp8 hA8 hf8 hl8 hM8 hr8 has8 hma8
  by_cases hm : m = []
  · subst hm
    refine iteNS rfl ?_
    -- self.ranks = found[:-1]
    have has8' : H8 fo = some (.lst (a0.map V.ref ++ [.ref ma])) := by rw [has8, List.map_append]; rfl
    refine ⟨_, rfl, _, rfl, _, rfl, fo, _, rfl, SqL.of has8', fun rl nrl => ?_⟩
    rw [cut_last]
    have s9 : Same H8 (upd H8 rl (.lst (a0.map V.ref))) := same_new nrl
    have hp9 := s9 _ _ hp8
    have hbk : Oc07.book ax rules = (fin, pre) := ExM.book_of (by rw [heq, ExM.rd_stop hrk, hrk]) hpre
    have hne : rl ∉ a0 := fun z => by
      obtain ⟨as8, e8, _, p8⟩ := hr8
      rw [has8] at e8
      have e9 : (a0 ++ [ma]).map V.ref = as8.map V.ref := HO.lst.inj (Option.some.inj e8)
      have e10 : a0 ++ [ma] = as8 := ref_inj e9
      subst e10
      obtain ⟨l, hl⟩ : ∃ l, LA (PA' K) H8 rl l := by
        have : ∀ {ls : List (List Rl)} {bs : List Addr}, Paired (fun l a => LA (PA' K) H8 a l) ls bs → rl ∈ bs → ∃ l, LA (PA' K) H8 rl l := fun {ls bs} q hz => by
          induction q with
          | nil => cases hz
          | cons r t ih =>
            rcases List.mem_cons.mp hz with e | e
            · exact ⟨_, e ▸ r⟩
            · exact ih e
        exact this p8 (List.mem_append_left _ z)
      obtain ⟨us, hus, _⟩ := hl
      rw [nrl] at hus
      cases hus
    have hrl : RkA K (upd H8 rl (.lst (a0.map V.ref))) rl pre := ⟨a0, upd_same, hne, paired_mem (R := fun l a => LA (PA' K) H8 a l) (fun _ _ _ q => q.same stP s9) (by
      obtain ⟨as8, e8, _, p8⟩ := hr8
      rw [has8] at e8
      have e9 : (a0 ++ [ma]).map V.ref = as8.map V.ref := HO.lst.inj (Option.some.inj e8)
      have e10 : a0 ++ [ma] = as8 := ref_inj e9
      subst e10
      obtain ⟨v0, v, e11, q0, _⟩ := paired_snocG p8
      obtain ⟨rfl, _⟩ := List.append_inj' e11 rfl
      exact q0)⟩
    refine ⟨_, rfl, p, T.c_Ranking, dx, _, rfl, hp9, T.cl_Ranking, T.na_Ranking_ranks, (by show 1 < 1000; decide), ?_⟩
    have e2 : putF ("ranks" : Str) (V.ref rl) [(("models" : Str), V.ref mo)] = ([(("models" : Str), V.ref mo), (("ranks" : Str), V.ref rl)] : List (Str × V)) := (putp (by decide +kernel)).trans rfl
    refine q _ ?_ ?_ ((kb8.trans (KB.of s9)).trans KB.up)
    · rw [hbk]
      exact ⟨dx, mo, rl, by rw [upd_same, e2], (hM8.same s9).ui hp9 T.ne_AR T.ne_MR, hrl.ui hp9⟩
    · rw [hbk]
      exact ⟨hcx7, fun l hl => hpl.sub (hprl l hl) ((rk_sub fin lft.length lft (Nat.le_refl _) l (by rw [hrk]; exact List.mem_append_left _ hl)).length_le), Nat.le_trans hplen (by omega)⟩
  · have ht : (!decide (m = [])) = true := by rw [decide_eq_false hm]; rfl
    rw [ht]
    have holt := ExM.others_lt hm hml
    have hole := others_le hmsub
    refine iteT ⟨fun σ' H' => ∃ n', n' < lft.length ∧ ∃ fi le fo mo gv fin lft, Rkg K T.c_Atoms T.c_Models T.c_Ranking H own ax rules p dx o a r n' σ' H' fi le fo mo gv fin lft, fun σ' H' h => h, ?_⟩
    -- gone = found[-1]
    refine ⟨_, rfl, _, rfl, fo, _, _, _, rfl, rfl, SqL.of has8, hat, ?_⟩
    -- final = final + [(rule[0], NONE) for rule in gone]
    obtain ⟨mv, hmv, _⟩ := id hma8
    have hm10 := hpm.le
    refine ⟨_, rfl, _, rfl, ma, rfl, ⟨mv, SqL.of hmv⟩, fun D nD => lc_data (K := K) stP hma8 (stP (K := K)) (fun _ => true) (fun x => (x.1, C.bot)) nD (by omega) (fun x v H' hx s9 hv Yes No hy _ => ?_) fun H9 s9 hD => ?_⟩
    · obtain ⟨tt, u, u2, rfl, htt, hu, hu2⟩ := hv
      refine ⟨rfl, ?_⟩
      refine ⟨_, rfl, _, _, _, _, rfl, rfl, htt, atI_nat (j := 0) rfl, small2, fun z nz => hy rfl _ _ (same_new nz) ?_⟩
      exact ⟨z, u, .ref T.none_, rfl, SqT.of upd_same, hu.ts (TS.new nz), T.none_, rfl, T.t_NONE _⟩
    have hD' : LA (PA' K) H9 D (gone m) := by
      have e : (m.filter fun _ => true).map (fun x : Rl => (x.1, C.bot)) = gone m := by
        have e5 : m.filter (fun _ => true) = m := List.filter_eq_self.mpr fun _ _ => rfl
        rw [e5]
        rfl
      rw [e] at hD
      exact hD
    obtain ⟨fv, hfv, pfv⟩ := hf8.same stP s9
    obtain ⟨dv, hdv, pdv⟩ := hD'
    have l1 := paired_len pfv
    have l2 := paired_len pdv
    have l3 : (gone m).length = m.length := List.length_map _
    refine ⟨fi, D, fv, dv, rfl, rfl, hfv, hdv, Nat.le_of_lt (line_big (by omega)), fun fi2 nfi2 => ?_⟩
    have s10 : Same H9 (upd H9 fi2 (.lst (fv ++ dv))) := same_new nfi2
    have hf10 : LA (PA' K) (upd H9 fi2 (.lst (fv ++ dv))) fi2 (fin ++ gone m) := ⟨fv ++ dv, upd_same, paired_imp (fun _ _ q => q.ts s10.ts) (paired_app pfv pdv)⟩
    generalize upd H9 fi2 (.lst (fv ++ dv)) = H10 at s10 hf10
    have s11 := s9.trans s10
    -- left = [rule for rule in left if rule not in gone]
    obtain ⟨lv, hlv, _⟩ := id (hl8.same stP s11)
    refine ⟨_, rfl, le, rfl, ⟨lv, SqL.of hlv⟩, fun D2 nD2 => lc_data (K := K) stP (hl8.same stP s11) (stP (K := K)) (fun x => !m.contains x) (fun x => x) nD2 (by omega) (fun x v H' hx s12 hv Yes No hy hno => ?_) fun H12 s12 hD2 => ?_⟩
    · refine ⟨rfl, ?_⟩
      refine ⟨_, rfl, _, rfl, dR x, m.map dR, hv.dp, (hma8.same stP (s11.trans s12)).list_dp (fun _ _ r => r.dp), dR_shaped (hpl.sm x hx), dRs_shaped hpm.sm, _, rfl, ?_⟩
      rw [any_rule]
      cases e : (!m.contains x) with
      | true => exact iteT ⟨_, rfl, hy e v H' (Same.refl _) hv⟩
      | false => exact iteF (hno e H' (Same.refl _))
    have e3 : (lft.filter fun x => !m.contains x).map (fun x => x) = others lft m := List.map_id' _
    rw [e3] at hD2
    have s13 := s11.trans s12
    have hpo : PrOk own (others lft m) := hpl.sub (fun a ha => (List.mem_filter.mp ha).1) (by omega)
    have hcx2 : CtxOk own (fin ++ gone m) := ⟨hcx7.ow, hcx7.cl, hcx7.pr.app hpm.gone (by omega)⟩
    -- self.models = ..; found = ..
    refine ⟨_, rfl, _, rfl, fun x xd nx nd nxd => ?_⟩
    have sx : Same H12 (upd (upd H12 xd (.own x)) x (.ins T.c_Models xd [])) := (same_new nd).trans (same_new (by rw [upd_ne (Ne.symm nxd)]; exact nx))
    have hf12 := hf10.same stP s12
    have hA12 := hA8.same s13
    refine ⟨x, xd, o, fi2, own, fin ++ gone m, rfl, upd_same, hA12.same sx, hf12.same stP sx, hcx2, T.ne_AM, fun H14 hM14 kx => ⟨rfl, ?_⟩⟩
    have s14 : Same H12 H14 := Same.made nx nd kx
    obtain ⟨hp14, g⟩ := stp (kb8.trans (KB.of s13)) (s13 _ _ hp8) puth hA12 hf12 hD2 s14 hM14 T.ne_AR T.ne_MR
    refine ⟨_, rfl, p, T.c_Ranking, dx, _, rfl, hp14, T.cl_Ranking, T.na_Ranking_models, (by show 1 < 1000; decide), ?_⟩
    generalize upd H14 p (.ins T.c_Ranking dx (putF "models" (.ref x) [("models", .ref mo)])) = H15 at g
    refine ⟨_, rfl, p, T.c_Ranking, dx, _, _, rfl, g.hp, T.cl_Ranking, T.na_Ranking_models, lkh, _, rfl, ?_⟩
    refine ⟨x, D2, own, fin ++ gone m, others lft m, rfl, g.hM, g.hl, hcx2, hpo, fun H16 fo2 s16 _ hfo2 => ?_⟩
    refine ⟨_, holt, fi2, D2, fo2, x, _, fin ++ gone m, others lft m, rfl, g.kb.trans (KB.of s16), s16 _ _ g.hp, g.hA.same s16, g.hf.same stP s16, g.hl.same stP s16, g.hM.same s16, hfo2, ?_, hcx2, hpo, ?_, rfl⟩
    · rw [heq]
      exact ExM.rd_go hrk hm hml
    · rw [List.length_append, l3]
      omega
end
end Ex
/-! Ranking: rank_of, rules_for, is_normal, is_always, many_ranks. -/
namespace Ex
open PySem PySem.Spec PyProof.Rows L2
open Oc (C)
open ExM (has sats every grow In InP Good valP ev rel1 mayRel poss kinds kinds0 fixF someHave rk rd gone others)
theorem paired_atG {α β : Type} {R : α → β → Prop} : ∀ {l : List α} {vs : List β} {i : Nat} {v : β}, Paired R l vs → vs[i]? = some v → ∃ a, l[i]? = some a ∧ R a v
  | _, _, _, _, .nil, e => by simp at e
  | _, _, 0, v, .cons r _, e => by
    simp at e
    subst e
    exact ⟨_, rfl, r⟩
  | _, _, i + 1, v, .cons _ t, e => by
    obtain ⟨a, h1, h2⟩ := paired_atG (i := i) t (by simpa using e)
    exact ⟨a, by simpa using h1, h2⟩
theorem map_at {as : List Addr} {i : Nat} {x : V} (h : (as.map V.ref)[i]? = some x) : ∃ a, as[i]? = some a ∧ x = .ref a := by
  rw [List.getElem?_map] at h
  cases e : as[i]? with
  | none => rw [e] at h; cases h
  | some a => rw [e] at h; exact ⟨a, rfl, (Option.some.inj h).symm⟩
theorem getD_at {α : Type} {l : List α} {i : Nat} {a d : α} (h : l[i]? = some a) : l.getD i d = a := by
  rw [List.getD_eq_getElem?_getD, h]
  rfl
theorem BkOk.at {own : List C} {b : List Rl × List (List Rl)} (h : BkOk own b) {i : Nat} {l : List Rl} (e : b.2[i]? = some l) : PrOk own l := h.rs l (List.mem_of_getElem? e)
section
variable {P : Program} {w : World} {K : PySem.W.Frag} {mg : Str → Option Value} {base : Heap}
def spRank (K : PySem.W.Frag) (cA cM cR : Addr) : Sp := fun vs H Q _ => ∃ (p : Addr) (cv : V) (own : List C) (b : List Rl × List (List Rl)) (c : C), vs = [.ref p, cv] ∧ RaA K cA cM cR H own b p ∧ CA K H c cv ∧ BkOk own b ∧ In own c ∧ Sm c ∧
  ∀ H' : Hp, Same H H' → Q (.int (Oc07.rankOf b c : Nat)) H'
theorem ok_rankOf (T : Txt K mg) : FnOk P w K mg base CX0 35 T.a_rankOf T.d_rankOf ["self", "concept"] (spRank K T.c_Atoms T.c_Models T.c_Ranking) := by
  have G := ok_exc (P := P) (w := w) (base := base) T
  refine T.f_rankOf.ok sc_rankOf (fun vs H Q E h => ?_) (fun cdv A outer s H vs Q E hr h => ?_)
  · obtain ⟨p, cv, own, b, c, rfl, _⟩ := h
    rfl
  obtain ⟨p, cv, own, b, c, rfl, hR, hc, hb, hi, hsm, q⟩ := h
  refine ⟨_, pss_cons (ps_for PassesOwn.never rfl (pi_enum rfl T.z_enumerate (pa_cons (pe_fld (pv 0) rfl) pa_nil))
      (pg_tup rfl (pgs_cons (pg_name (i := 2) sc_rankOf.nd rfl (Or.inl rfl)) (pgs_cons (pg_name (i := 3) sc_rankOf.nd rfl (Or.inl rfl)) pgs_nil)))
      (pss_one (ps_if (pt_not (pt_val (pe_meth (pe_fld (pv 0) rfl) T.cl_Models T.m_exc G hr T.b_exc .nil pass0 (pa_cons (pv 1) (pa_cons (pv 3) pa_nil))))) (pss_one (ps_ret (pv 2))) pss_nil)))
    (pss_one (ps_ret (pe_callB call_len_seq rfl T.z_len PySem.boot_len (pa_cons (pe_fld (pv 0) rfl) pa_nil)))), ?_⟩
  obtain ⟨dx, mo, rl, hins, hM, hrk⟩ := id hR
  obtain ⟨as, has, hna, pas⟩ := id hrk
  obtain ⟨dm, o, kl, hmo, _⟩ := id hM
  have hlen := paired_lenG pas
  refine ⟨_, rfl, p, T.c_Ranking, dx, _, _, rfl, hins, T.cl_Ranking, T.na_Ranking_ranks, (lkp (by decide +kernel)).trans lkh, rl, as.map V.ref, rfl, SqL.of has, ?_⟩
  refine for_it (walk_enum (K := K) (a := rl) (xs := as.map V.ref)) (fun i σ H' => ∃ nv rv : Option V, σ = [some (.ref p), some cv, nv, rv] ∧ Same H H' ∧ ∀ j, j < i → Oc07.strange b.1 (b.2.getD j []) c = true)
    ⟨none, none, rfl, Same.refl H, fun j hj => absurd hj (Nat.not_lt_zero _)⟩ (fun i σ H' _ ⟨_, _, _, s, _⟩ => SqL.of (s _ _ has)) ?_ ?_
  · rintro i x σ H1 H2 hi' ⟨nv, rv, rfl, s1, hall⟩ ⟨t, xn, xr, rfl, nt, rfl, hxn, hxr⟩
    obtain ⟨a, ha, rfl⟩ := map_at hxr
    cases Option.some.inj hxn
    obtain ⟨l, hl, hla⟩ := paired_atG pas ha
    have s2 : Same H1 (upd H1 t (.tup [.int (i : Nat), .ref a])) := same_new nt
    have s3 := s1.trans s2
    refine ⟨t, _, rfl, SqT.of upd_same, rfl, _, _, rfl, _, _, rfl, rfl, ?_⟩
    generalize upd H1 t (.tup [.int (i : Nat), .ref a]) = H3 at s2 s3
    refine ⟨_, rfl, p, T.c_Ranking, dx, _, _, rfl, s3 _ _ hins, T.cl_Ranking, T.na_Ranking_models, lkh, mo, dm, _, rfl, s3 _ _ hmo, lkn2 (by decide +kernel) (by decide +kernel), _, rfl, _, rfl, ?_⟩
    refine ⟨mo, a, cv, own, b.1, l, c, rfl, hM.same s3, hc.ts s3.ts, hla.same stP s3, hb.cx, hi, hsm, hb.at hl, fun H4 s4 => ⟨_, rfl, ?_⟩⟩
    have hg : b.2.getD i [] = l := getD_at hl
    cases e : Oc07.strange b.1 l c with
    | true =>
      refine iteF ⟨_, _, rfl, s3.trans s4, fun j hj => ?_⟩
      by_cases h : j = i
      · subst h; rw [hg]; exact e
      · exact hall j (by omega)
    | false =>
      refine iteT ⟨_, rfl, ?_⟩
      have hlt : i < b.2.length := by rw [hlen]; rw [List.length_map] at hi'; exact hi'
      have q' := q H4 (s3.trans s4)
      rw [ExM.rank_at hlt hall (by rw [hg]; exact e)] at q'
      exact q'
  · rintro σ H1 ⟨nv, rv, rfl, s1, hall⟩
    refine ⟨_, rfl, p, T.c_Ranking, dx, _, _, rfl, s1 _ _ hins, T.cl_Ranking, T.na_Ranking_ranks, (lkp (by decide +kernel)).trans lkh, rl, _, rfl, .inl (SqL.of (s1 _ _ has)), ?_⟩
    have q' := q H1 s1
    rw [List.length_map] at hall
    rw [ExM.rank_none (by rw [hlen]; exact hall), hlen] at q'
    rw [List.length_map]
    exact q'
def spFor (K : PySem.W.Frag) (cA cM cR : Addr) : Sp := fun vs H Q _ => ∃ (p : Addr) (cv : V) (own : List C) (b : List Rl × List (List Rl)) (c : C), vs = [.ref p, cv] ∧ RaA K cA cM cR H own b p ∧ CA K H c cv ∧ BkOk own b ∧ In own c ∧ Sm c ∧
  ∀ (H' : Hp) (l : Addr), Same H H' → LA (PA' K) H' l (b.2.getD (Oc07.rankOf b c) []) → Q (.ref l) H'
theorem ok_rulesFor (T : Txt K mg) : FnOk P w K mg base CX0 36 T.a_rulesFor T.d_rulesFor ["self", "concept"] (spFor K T.c_Atoms T.c_Models T.c_Ranking) := by
  have G := ok_rankOf (P := P) (w := w) (base := base) T
  refine T.f_rulesFor.ok sc_rulesFor (fun vs H Q E h => ?_) (fun cdv A outer s H vs Q E hr h => ?_)
  · obtain ⟨p, cv, own, b, c, rfl, _⟩ := h
    rfl
  obtain ⟨p, cv, own, b, c, rfl, hR, hc, hb, hi, hsm, q⟩ := h
  refine ⟨_, pss_cons (ps_set (i := 2) sc_rulesFor.nd rfl (Or.inl rfl) (pe_meth (pv 0) T.cl_Ranking T.m_rankOf G hr T.b_rankOf .nil pass0 (pa_cons (pv 1) pa_nil)))
    (pss_one (ps_ret (pe_ifExp (pt_cmpR op_lt (pv 2) (pe_callB call_len_seq rfl T.z_len PySem.boot_len (pa_cons (pe_fld (pv 0) rfl) pa_nil)) (nomark _))
      (pe_ix ix_list (pe_fld (pv 0) rfl) (pv 2) (fun _ _ => rfl)) (pe_lst pa_nil)))), ?_⟩
  obtain ⟨dx, mo, rl, hins, hM, hrk⟩ := id hR
  obtain ⟨as, has, hna, pas⟩ := id hrk
  have hlen := paired_lenG pas
  refine ⟨_, rfl, p, dx, _, rfl, hins, lkn2 (by decide +kernel) (by decide +kernel), _, rfl, ?_⟩
  refine ⟨p, cv, own, b, c, rfl, hR, hc, hb, hi, hsm, fun H1 s1 => ?_⟩
  refine ⟨_, rfl, _, rfl, p, T.c_Ranking, dx, _, _, rfl, s1 _ _ hins, T.cl_Ranking, T.na_Ranking_ranks, (lkp (by decide +kernel)).trans lkh, rl, _, rfl, .inl (SqL.of (s1 _ _ has)), ?_⟩
  refine ⟨_, _, rfl, rfl, _, rfl, ?_⟩
  rw [List.length_map, ← hlen]
  by_cases h : Oc07.rankOf b c < b.2.length
  · have hd : decide (((Oc07.rankOf b c : Nat) : Int) < ((b.2.length : Nat) : Int)) = true := decide_eq_true (by omega)
    rw [hd]
    refine iteT ?_
    obtain ⟨l, hl⟩ : ∃ l, b.2[Oc07.rankOf b c]? = some l := ⟨_, List.getElem?_eq_getElem h⟩
    have ha : ∃ a, as[Oc07.rankOf b c]? = some a := ⟨_, List.getElem?_eq_getElem (by rw [← hlen]; exact h)⟩
    obtain ⟨a, ha⟩ := ha
    obtain ⟨l', hl', hla⟩ := paired_atG pas ha
    cases Option.some.inj (hl.symm.trans hl')
    refine ⟨_, rfl, p, T.c_Ranking, dx, _, _, rfl, s1 _ _ hins, T.cl_Ranking, T.na_Ranking_ranks, (lkp (by decide +kernel)).trans lkh, _, rfl, rl, as.map V.ref, _, .ref a, rfl, rfl, SqL.of (s1 _ _ has), (atI_nat (by rw [List.getElem?_map, ha]; rfl)), ?_⟩
    have q' := q H1 a s1 (by rw [getD_at hl]; exact hla.same stP s1)
    exact q'
  · have hd : decide (((Oc07.rankOf b c : Nat) : Int) < ((b.2.length : Nat) : Int)) = false := decide_eq_false (by omega)
    rw [hd]
    refine iteF ⟨(by decide : 0 ≤ sizeLine), fun p' np => q _ p' (s1.trans (same_new np)) ?_⟩
    have e : b.2.getD (Oc07.rankOf b c) [] = [] := by
      rw [List.getD_eq_getElem?_getD, List.getElem?_eq_none (by omega)]
      rfl
    rw [e]
    exact la_nil upd_same
def spIs (K : PySem.W.Frag) (cA cM cR : Addr) (f : List Rl × List (List Rl) → C → C → Bool) : Sp := fun vs H Q _ => ∃ (p : Addr) (cv dv : V) (own : List C) (b : List Rl × List (List Rl)) (c d : C), vs = [.ref p, cv, dv] ∧ RaA K cA cM cR H own b p ∧ CA K H c cv ∧ CA K H d dv ∧ BkOk own b ∧ In own c ∧ Sm c ∧ In own d ∧ Sm d ∧
  ∀ H' : Hp, Same H H' → Q (.bl (f b c d)) H'
def norm (b : List Rl × List (List Rl)) (c d : C) : Bool := Oc.under b.1 (.and c (Oc07.all_ (b.2.getD (Oc07.rankOf b c) []))) d
def alw (b : List Rl × List (List Rl)) (c d : C) : Bool := Oc.under b.1 c d
theorem ok_isNor (T : Txt K mg) : FnOk P w K mg base CX0 37 T.a_isNor T.d_isNor ["self", "concept", "other"] (spIs K T.c_Atoms T.c_Models T.c_Ranking norm) := by
  have G := ok_rulesFor (P := P) (w := w) (base := base) T
  have GF := ok_follow (P := P) (w := w) (base := base) T
  refine T.f_isNor.ok sc_isNor (fun vs H Q E h => ?_) (fun cdv A outer s H vs Q E hr h => ?_)
  · obtain ⟨p, cv, dv, own, b, c, d, rfl, _⟩ := h
    rfl
  obtain ⟨p, cv, dv, own, b, c, d, rfl, hR, hc, hd, hb, hi, hsm, hi2, hsm2, q⟩ := h
  have hrF : Room 34 _ := hr.mono (by decide)
  refine ⟨_, pss_one (ps_ret (pe_meth (pe_fld (pv 0) rfl) T.cl_Models T.m_follow GF hrF T.b_follow .nil pass0 (pa_cons (pv 1) (pa_cons
    (pe_meth (pv 0) T.cl_Ranking T.m_rulesFor G hr T.b_rulesFor .nil pass0 (pa_cons (pv 1) pa_nil)) (pa_cons (pv 2) pa_nil))))), ?_⟩
  obtain ⟨dx, mo, rl, hins, hM, hrk⟩ := id hR
  obtain ⟨dm, o, kl, hmo, _⟩ := id hM
  refine ⟨_, rfl, p, T.c_Ranking, dx, _, _, rfl, hins, T.cl_Ranking, T.na_Ranking_models, lkh, mo, dm, _, rfl, hmo, lkn2 (by decide +kernel) (by decide +kernel), _, rfl, _, rfl, p, dx, _, rfl, hins, lkn2 (by decide +kernel) (by decide +kernel), _, rfl, ?_⟩
  refine ⟨p, cv, own, b, c, rfl, hR, hc, hb, hi, hsm, fun H1 l s1 hl => ⟨_, rfl, ?_⟩⟩
  have hp : PrOk own (b.2.getD (Oc07.rankOf b c) []) := by
    rw [List.getD_eq_getElem?_getD]
    cases e : b.2[Oc07.rankOf b c]? with
    | none => exact PrOk.nil
    | some l => exact hb.at e
  exact ⟨mo, l, cv, dv, own, b.1, _, c, d, rfl, hM.same s1, hc.ts s1.ts, hd.ts s1.ts, hl, hb.cx, hi, hsm, hi2, hsm2, hp, fun H2 s2 => q H2 (s1.trans s2)⟩
theorem ok_isAlw (T : Txt K mg) : FnOk P w K mg base CX0 37 T.a_isAlw T.d_isAlw ["self", "concept", "other"] (spIs K T.c_Atoms T.c_Models T.c_Ranking alw) := by
  have GF := ok_follow (P := P) (w := w) (base := base) T
  refine T.f_isAlw.ok sc_isAlw (fun vs H Q E h => ?_) (fun cdv A outer s H vs Q E hr h => ?_)
  · obtain ⟨p, cv, dv, own, b, c, d, rfl, _⟩ := h
    rfl
  obtain ⟨p, cv, dv, own, b, c, d, rfl, hR, hc, hd, hb, hi, hsm, hi2, hsm2, q⟩ := h
  have hrF : Room 34 _ := hr.mono (by decide)
  refine ⟨_, pss_one (ps_ret (pe_meth (pe_fld (pv 0) rfl) T.cl_Models T.m_follow GF hrF T.b_follow .nil pass0 (pa_cons (pv 1) (pa_cons
    (pe_lst pa_nil) (pa_cons (pv 2) pa_nil))))), ?_⟩
  obtain ⟨dx, mo, rl, hins, hM, hrk⟩ := id hR
  obtain ⟨dm, o, kl, hmo, _⟩ := id hM
  refine ⟨_, rfl, p, T.c_Ranking, dx, _, _, rfl, hins, T.cl_Ranking, T.na_Ranking_models, lkh, mo, dm, _, rfl, hmo, lkn2 (by decide +kernel) (by decide +kernel), _, rfl, (by decide : 0 ≤ sizeLine), fun l nl => ⟨_, rfl, ?_⟩⟩
  have s1 : Same H (upd H l (.lst [])) := same_new nl
  refine ⟨mo, l, cv, dv, own, b.1, [], c, d, rfl, hM.same s1, hc.ts s1.ts, hd.ts s1.ts, la_nil upd_same, hb.cx, hi, hsm, hi2, hsm2, PrOk.nil, fun H2 s2 => ?_⟩
  rw [ExM.under_top]
  exact q H2 (s1.trans s2)
def AnyV (_ : Hp) (_ : List Rl) (_ : V) : Prop := True
theorem stAny : Stays AnyV := ⟨fun _ _ _ _ _ h => h⟩
def spMany (K : PySem.W.Frag) (cA cM cR : Addr) : Sp := fun vs H Q _ => ∃ (p : Addr) (rv : V) (own : List C) (b : List Rl × List (List Rl)) (x : Rl), vs = [.ref p, rv] ∧ RaA K cA cM cR H own b p ∧ PA' K H x rv ∧ BkOk own b ∧ SmR x ∧
  ∀ H' : Hp, Same H H' → Q (.int (ExM.manyRanks b.2 x : Nat)) H'
theorem ok_manyR (T : Txt K mg) : FnOk P w K mg base CX0 1 T.a_manyR T.d_manyR ["self", "rule"] (spMany K T.c_Atoms T.c_Models T.c_Ranking) := by
  refine T.f_manyR.ok sc_manyR (fun vs H Q E h => ?_) (fun cdv A outer s H vs Q E hr h => ?_)
  · obtain ⟨p, rv, own, b, x, rfl, _⟩ := h
    rfl
  obtain ⟨p, rv, own, b, x, rfl, hR, hx, hb, hsm, q⟩ := h
  refine ⟨_, pss_one (ps_ret (pe_callB call_len_seq rfl T.z_len PySem.boot_len (pa_cons
      (pe_lc (own := [("rules", 2)]) (g := gName 2) (tt := tTest (tOp (rInD K) (tVar 1) (tVar 2))) (te := tVar 2)
        rfl sc_manyR.nd (pi_list (pe_fld (pv 0) rfl))
        (blkOk_by (own := [("rules", 2)]) (N := ["self", "rule", "rules"]) (sc := defScope s_manyR) (by decide +kernel))
        (fun _ _ _ _ _ => pg_name (i := 2) sc_manyR.nd rfl (Or.inl rfl))
        (fun _ _ _ _ _ => pts_one (pt_cmpR (op_inD (hu65 hr)) (pv 1) (pv 2) rfl)) (fun _ _ _ _ _ => pv 2)) pa_nil))), ?_⟩
  obtain ⟨dx, mo, rl, hins, hM, hrk⟩ := id hR
  obtain ⟨as, has, hna, pas⟩ := id hrk
  have hlen := paired_lenG pas
  have h10 := hb.le
  refine ⟨_, rfl, p, T.c_Ranking, dx, _, _, rfl, hins, T.cl_Ranking, T.na_Ranking_ranks, (lkp (by decide +kernel)).trans lkh, rl, rfl, ⟨_, SqL.of has⟩, fun D nD => ?_⟩
  refine lc_by (walk_list (K := K) (a := rl) (xs := as.map V.ref)) stAny (fun i => (b.2.take i).filter fun l => l.contains x) nD rfl (fun i hi => ?_) (fun H' s => SqL.of (s _ _ has)) (fun i v H' H2 hi s1 y Yes No hy hno => ?_) fun H' s hD => ?_
  · have h1 := List.length_filter_le (fun l : List Rl => l.contains x) (b.2.take i)
    have h2 := List.length_take_le' i b.2
    omega
  · obtain ⟨rfl, hv⟩ := y
    obtain ⟨a, ha, rfl⟩ := map_at hv
    obtain ⟨l, hl, hla⟩ := paired_atG pas ha
    refine ⟨rfl, ?_⟩
    refine ⟨_, rfl, _, rfl, dR x, l.map dR, (hx.ts s1.ts).dp, (hla.same stP s1).list_dp (fun _ _ r => r.dp), dR_shaped hsm, dRs_shaped (hb.at hl).sm, _, rfl, ?_⟩
    rw [any_rule]
    cases e : l.contains x with
    | true => exact iteT ⟨_, rfl, hy l _ _ (Same.refl _) trivial (by rw [take_succ' hl, List.filter_append, List.filter_cons_of_pos (p := fun l : List Rl => l.contains x) (a := l) e]; rfl)⟩
    | false => exact iteF (hno _ (Same.refl _) (by rw [take_succ' hl, List.filter_append, List.filter_cons_of_neg (p := fun l : List Rl => l.contains x) (a := l) (by rw [e]; exact Bool.false_ne_true)]; exact List.append_nil _))
  · obtain ⟨us, hus, pus⟩ := hD
    refine ⟨D, us, rfl, .inl (SqL.of hus), ?_⟩
    rw [← paired_len pus, List.length_map, ← hlen, List.take_length]
    exact q H' s
end
end Ex
/-! Refused; told_concepts. -/
namespace Ex
open PySem PySem.Spec PyProof.Rows L2
open Oc (C)
section
variable {P : Program} {w : World} {K : PySem.W.Frag} {mg : Str → Option Value} {base : Heap}
/-- Refused with this code goes out -/
def RefE (c : Addr) (H : Hp) (E : XK) (code : Int) : Prop := ∀ (d : Addr) (H' : Hp), Same H H' → H' d = some (.xd [("code", .int code)]) → E (.ref c) (some d) H'
theorem RefE.of {c : Addr} {H H1 : Hp} {E : XK} {code : Int} (s : Same H H1) (h : RefE c H E code) : RefE c H1 E code := fun d H' s' e => h d H' (s.trans s') e
def spReI (K : PySem.W.Frag) (c : Addr) : Sp := fun vs H Q _ => ∃ (a : Addr) (code : Int), vs = [.ref a, .int code] ∧ H a = some (exo a c none) ∧
  ∀ dx, H dx = none → dx ≠ a → Q .non (upd (upd H dx (exd dx [("code", .int code)])) a (exo a c (some dx)))
theorem rd_reI (T : Txt K mg) {vs : List V} {H : Hp} {Q : VK} {E : XK} (h : spReI K T.c_Ref vs H Q E) :
    tSeq (tDrop (tVeI K (tCons (tVar 0) (tCons (tC (.str "an operation returns an error")) tNil)))) (tOst K "code" (tVar 0) (tVar 1)) { nx := fun _ H' => Q .non H', rt := Q } (L2.start ["self", "code"] vs) H := by
  obtain ⟨a, code, rfl, ha, q⟩ := h
  refine ⟨_, rfl, a, T.c_Ref, _, rfl, (by show 1 ≤ 1000; decide), T.xR, ha, ?_⟩
  exact ⟨_, rfl, _, rfl, a, T.c_Ref, rfl, T.xR, T.nR, .inl ⟨ha, q⟩⟩
theorem ok_reI (T : Txt K mg) : FnOk P w K mg base CX0 1 T.a_reI T.d_reI ["self", "code"] (spReI K T.c_Ref) := by
  refine T.f_reI.ok sc_reI (fun vs H Q E h => ?_) (fun cdv A outer s H vs Q E hr h => ?_)
  · obtain ⟨a, code, rfl, _⟩ := h
    rfl
  exact ⟨_, pss_cons (ps_expr (pe_veinit rfl T.z_ValueError T.vV (pa_cons (pv 0) (pa_cons pe_str pa_nil)))) (pss_one (ps_ost (pv 0) (pv 1))), rd_reI T h⟩
theorem hot_reI (T : Txt K mg) : L2H.FnH P w K mg base CX0 1 T.a_reI T.d_reI ["self", "code"] (spReI K T.c_Ref) := by
  obtain ⟨oc, od, kV, doc, pm, an, cdv, ct, osl, e, lk, hcd⟩ := T.f_reI.ex
  rw [e] at lk ⊢
  refine L2H.fn_ofH lk hcd sc_reI (fun vs H Q E h => ?_) (fun A outer s H vs Q E p hot hr h => ?_)
  · obtain ⟨a, code, rfl, _⟩ := h
    rfl
  exact ⟨_, pss_cons (ps_expr (pe_veinit rfl T.z_ValueError T.vV (pa_cons (pv 0) (pa_cons pe_str pa_nil)))) (pss_one (ps_ost (pv 0) (pv 1))), rd_reI T h⟩
/-- the reading of Refused(code) -/
theorem out_ref {K : PySem.W.Frag} {c : Addr} {H1 : Hp} {Q : XK} {code : Int} (k : RefE c H1 Q code) : ([V.int code] : List V).length ≤ 1000 ∧ ∀ a, H1 a = none → spReI K c (.ref a :: ([V.int code] ++ [])) (upd H1 a (exo a c none))
    (fun v H2 => v = .non ∧ ∃ (d : Addr) (fs : List (Str × V)), H2 a = some (exo a c (some d)) ∧ H2 d = some (exd d fs) ∧ H1 d = none ∧ Q (.ref c) (some d) (upd (del H2 a) d (.xd fs))) (fun _ _ _ => False) := by
  refine ⟨(by show 1 ≤ 1000; decide), fun a na => ⟨a, code, rfl, upd_same, fun d nd da => ⟨rfl, d, [("code", .int code)], upd_same, ?_, ?_, ?_⟩⟩⟩
  · rw [upd_ne da, upd_same]
  · rw [upd_ne da] at nd
    exact nd
  · refine k d _ (fun b o e => ?_) upd_same
    have nd' : H1 d = none := by rw [upd_ne da] at nd; exact nd
    have b1 : b ≠ a := ne_of_none e na
    have b2 : b ≠ d := ne_of_none e nd'
    rw [upd_ne b2, del_ne b1, upd_ne b1, upd_ne b2, upd_ne b1]
    exact e
def spTold (K : PySem.W.Frag) (cR : Addr) : Sp := fun vs H Q E => ∃ (a : Addr) (ns : List Int) (m : Nat), vs = [.ref a, .int m] ∧ SqL K H a (ns.map V.int) ∧ (∀ x ∈ ns, 0 ≤ x) ∧ ns.length ≤ 30 ∧ m ≤ 2 ∧
  ((∀ cs, rdMany m (nats ns) ≠ some (cs, [])) → RefE cR H E (-1)) ∧
  (∀ cs, rdMany m (nats ns) = some (cs, []) → ∀ (H' : Hp) (l : Addr), Same H H' → H l = none → LA (CA K) H' l cs → Q (.ref l) H')
theorem ok_toldC (T : Txt K mg) : FnOk P w K mg base (L2.CX P w) 36 T.a_toldC T.d_toldC ["numbers", "many"] (spTold K T.c_Ref) := by
  have G := ok_rdCs (P := P) (w := w) (base := base) T
  have GH := hot_reI (P := P) (w := w) (base := base) T
  refine T.f_toldC.okX sc_toldC (fun vs H Q E h => ?_) (fun cdv A outer s H vs Q E hr h => ?_)
  · obtain ⟨a, ns, m, rfl, _⟩ := h
    rfl
  obtain ⟨a, ns, m, rfl, hS, hpos, h30, hm, hbad, hgood⟩ := h
  have tk := L2.takes_of (X := cxOf (L2.CX P w) P w K mg base ["numbers", "many"] "told_concepts" (defScope s_toldC) T.a_toldC cdv A outer s H E) rfl rfl rfl rfl
  refine ⟨_, pss_one (L2H.ps_try_onlyX (tb := fun W => tRet (tCallS (spRdCs K T.c_NoC) (WE W) (tCons (tVar 0) (tCons (tVar 1) tNil))))
      (ts := fun a cls d => fun _ σ H => tMkO T.c_Ref (spReI K T.c_Ref) [] (tCons (tC (.int (-1))) tNil) σ H fun cls d H' => (fun cls d (_ : L2.St) H' => E cls d H') cls d σ H') rfl rfl ⟨rfl, by decide, .inl T.gN⟩ ?_ tk
      (fun W pn xe tkb _ _ => pss_one (ps_ret (pe_callS G hr rfl T.g_rdCs T.f_rdCs.kp T.b_rdCs (fun σ => L2N.passAt tkb σ) (by exact (pa_cons (pv 0) (pa_cons (pv 1) pa_nil))))))
      (fun a oe cls d pn hz hf tks hot => pss_one (L2H.ps_raiseHN hot tks (L2H.pmk5_oexH T.xR T.iR T.yR GH (L2H.roomH_mark (hr.mono (by decide)) _) hot T.b_reI pass0 rfl T.gR (pa_cons (gI T.k_NO_CONCEPTS) pa_nil))))), ?_⟩
  · exact fun hd => PassesOwnAt.leaving
  · refine ⟨_, rfl, _, rfl, a, ns, m, rfl, hS, hpos, h30, hm, fun hx H1 s1 => ?_, fun cs hx H1 l s1 nl hl => hgood cs hx H1 l s1 nl hl⟩
    refine ⟨true, T.eN, fun _ a0 _ => ?_, fun z => Bool.noConfusion z⟩
    exact out_ref (RefE.of s1 (hbad hx))
end
end Ex
/-! The service: its atoms, its ranking. -/
namespace Ex
open PySem PySem.Spec PyProof.Rows L2
open Oc (C)
open ExM (In)
/-! ### a method that may raise -/
section
variable {X : Cx} {CX : CXT} {k : Nat} {f C : Addr} {fd : FuncData} {ps : List Str} {sp : Sp} {E : L2.St → XK} {m : Str} {pos apos : Pos} {e o : Expr} {es : List Expr} {ta : TE} {t : TA}
def tMethA (C : Addr) (m : Str) (sp : Sp) (E : L2.St → XK) (ta : TE) (t : TA) : TE := fun σ H Q => ta σ H fun x H1 => ∃ (a dx : Addr) (fs : List (Str × V)), x = .ref a ∧ H1 a = some (.ins C dx fs) ∧ fs.lookup m = none ∧ t σ H1 fun vs H2 => sp (.ref a :: vs) H2 Q (E σ)
theorem pe_methA {pl : Sem Bool} (he : PE X o ta) (c : Cls X.K C) (hm : Meth X.K C m f) (F : FnOk X.prog X.w X.K X.mg X.base CX k f fd ps sp) (hr : Room k X.A) (hb : Binds X.K fd ps []) (hx : ∀ σ, PassesAt CX X σ (E σ)) (ha : PA X (e :: es) t)
    (hst : starEach (e :: es) X.env = (false, eval e X.env) :: starEach es X.env := by rfl) (hpl : (backTo pos (starEach es X.env)).any (·.1) = false := by rfl)
    (ht : eval (.Call (.Attribute o m apos) (e :: es) [] pos) X.env = (do
      let ov ← eval o X.env
      standAt apos.atName
      let (f, first) ← holding [ov] (getMethod ov m pl)
      callWith pos f first (backTo pos (starEach (e :: es) X.env)) (backToKw pos (keywordEach [] X.env))) := by rfl) :
    PE X (.Call (.Attribute o m apos) (e :: es) [] pos) (tMethA C m sp E ta t) := by
  refine ⟨fun pins s σ H Q I h => ?_⟩
  refine PySem.W.methodCall_KW (pl := pl) (thn (he.run pins s σ H _ I h) fun u s1 ⟨x, H1, I1, rx, a, dx, fs, ex, ea, l, q⟩ => ?_) ht
  subst ex
  obtain rfl : u = Value.ref a := rx
  refine getmeth_ok I1 ea c hm l ?_
  refine PySem.W.callWith_K (first := [.ref a]) (h₀ := X.base) I.ok.mod.kin hm.kp (thn (ha.run pos pins s1 σ H1 _ I1 q) fun us s2 ⟨vs, H2, I2, r, q2⟩ => ⟨I2.kIn, ?_⟩) hst hpl
  exact run_fnS (us := .ref a :: us) (vs := .ref a :: vs) F hr hb (hx σ) I2 (.cons rfl r) q2
theorem pe_methA0 {pl : Sem Bool} (he : PE X o ta) (c : Cls X.K C) (hm : Meth X.K C m f) (F : FnOk X.prog X.w X.K X.mg X.base CX k f fd ps sp) (hr : Room k X.A) (hb : Binds X.K fd ps []) (hx : ∀ σ, PassesAt CX X σ (E σ))
    (ht : eval (.Call (.Attribute o m apos) [] [] pos) X.env = (do
      let ov ← eval o X.env
      standAt apos.atName
      let (f, first) ← holding [ov] (getMethod ov m pl)
      callWith pos f first (backTo pos (starEach [] X.env)) (backToKw pos (keywordEach [] X.env))) := by rfl) :
    PE X (.Call (.Attribute o m apos) [] [] pos) (tMethA C m sp E ta tNil) := by
  refine ⟨fun pins s σ H Q I h => ?_⟩
  refine PySem.W.methodCall_KW (pl := pl) (thn (he.run pins s σ H _ I h) fun u s1 ⟨x, H1, I1, rx, a, dx, fs, ex, ea, l, q⟩ => ?_) ht
  subst ex
  obtain rfl : u = Value.ref a := rx
  refine getmeth_ok I1 ea c hm l ?_
  exact PySem.W.callWith_K0 (first := [.ref a]) I1.kIn hm.kp (run_fnS (us := [.ref a]) (vs := [.ref a]) F hr hb (hx σ) I1 (.cons rfl .nil) q)
end
/-! ### the house -/
structure HOK (h : Oc07.House) : Prop where
  ax : h.axioms.length ≤ 3
  ru : h.rules.length ≤ 4
  sa : ∀ r ∈ h.axioms, SmR r
  sr : ∀ r ∈ h.rules, SmR r
  le : (Oc.atomsOf (Oc07.both h)).length ≤ 4
def bothL (l : List Rl) : List C := l.flatMap fun a => [a.1, a.2]
theorem bothL_sm {l : List Rl} (h : ∀ r ∈ l, SmR r) : ∀ c ∈ bothL l, Sm c := fun c hc => by
  obtain ⟨r, hr, q⟩ := List.mem_flatMap.mp hc
  rcases List.mem_cons.mp q with q | q
  · rw [q]; exact (h r hr).1
  · rw [List.mem_singleton.mp q]; exact (h r hr).2
theorem bothL_len : ∀ l : List Rl, (bothL l).length = 2 * l.length
  | [] => rfl
  | a :: l => by
    have e : bothL (a :: l) = a.1 :: a.2 :: bothL l := rfl
    rw [e, List.length_cons, List.length_cons, List.length_cons, bothL_len l]
    omega
theorem szs_le {n : Nat} : ∀ {l : List C}, (∀ c ∈ l, Sm c) → l.length ≤ n → szs l ≤ 30 * n
  | [], _, _ => Nat.zero_le _
  | c :: l, h, k => by
    have h1 : sz c ≤ 30 := h c List.mem_cons_self
    have h2 := szs_le (n := l.length) (l := l) (fun d hd => h d (List.mem_cons_of_mem _ hd)) (Nat.le_refl _)
    have e : szs (c :: l) = sz c + szs l := by simp [szs]
    rw [e]
    rw [List.length_cons] at k
    omega
theorem HOK.sm {h : Oc07.House} (k : HOK h) : ∀ r ∈ h.axioms ++ h.rules, SmR r := fun r hr => (List.mem_append.mp hr).elim (k.sa r) (k.sr r)
theorem HOK.len {h : Oc07.House} (k : HOK h) : (h.axioms ++ h.rules).length ≤ 7 := by
  rw [List.length_append]
  have h1 := k.ax
  have h2 := k.ru
  omega
/-- the atoms that the service gathers -/
structure GatOk (h : Oc07.House) (cs as : List C) : Prop where
  nd : as.Nodup
  mem : ∀ x, x ∈ as ↔ x ∈ (cs ++ Oc07.both h).flatMap C.atoms
  le : as.length ≤ 4
theorem much_len {h : Oc07.House} {cs as : List C} (nd : as.Nodup) (mem : ∀ x, x ∈ as ↔ x ∈ (cs ++ Oc07.both h).flatMap C.atoms) : Oc07.much h cs = decide (4 < as.length) := by
  have e : as.length = (Oc.atomsOf (Oc07.both h ++ cs)).length := ExM.same_len nd (ExM.distinct_nodup _) fun c => by
    rw [mem c, ExM.atomsOf_mem, List.flatMap_append, List.flatMap_append, List.mem_append, List.mem_append]
    exact Or.comm
  rw [e]
  rfl
theorem HOK.much {h : Oc07.House} (k : HOK h) : Oc07.much h [] = false := by
  unfold Oc07.much
  rw [List.append_nil]
  exact decide_eq_false (by have := k.le; show ¬ 4 < _; omega)
section
variable {h : Oc07.House} {cs as : List C}
theorem GatOk.inn (g : GatOk h cs as) {c : C} (hc : c ∈ cs) : In as c := ExM.in_of g.mem (List.mem_append_left _ hc)
theorem GatOk.prok (g : GatOk h cs as) {l : List Rl} (hl : ∀ r ∈ l, r ∈ h.axioms ++ h.rules) (hs : ∀ r ∈ l, SmR r) (hn : l.length ≤ 10) : PrOk as l :=
  ⟨fun a ha => ⟨ExM.in_of g.mem (List.mem_append_right _ (List.mem_flatMap.mpr ⟨a, hl a ha, List.mem_cons_self⟩)), ExM.in_of g.mem (List.mem_append_right _ (List.mem_flatMap.mpr ⟨a, hl a ha, List.mem_cons_of_mem _ List.mem_cons_self⟩))⟩, hs, hn⟩
theorem GatOk.ctx (g : GatOk h cs as) (k : HOK h) (hs : ∀ c ∈ cs, Sm c) : CtxOk as h.axioms := by
  refine ⟨⟨g.nd, fun x hx => ?_, g.le⟩, ExM.closed_of g.mem, g.prok (fun r hr => List.mem_append_left _ hr) k.sa (by have := k.ax; omega)⟩
  obtain ⟨c, hc, q⟩ := List.mem_flatMap.mp ((g.mem x).mp hx)
  have h1 := atoms_small q
  have h2 : sz c ≤ 30 := (List.mem_append.mp hc).elim (hs c) (bothL_sm k.sm c)
  exact Nat.le_trans h1 h2
theorem GatOk.rul (g : GatOk h cs as) (k : HOK h) : PrOk as h.rules := g.prok (fun r hr => List.mem_append_right _ hr) k.sr (by have := k.ru; omega)
end
/-! ### the service in the heap -/
def SvA (K : PySem.W.Frag) (cS : Addr) (H : Hp) (h : Oc07.House) (s la lr : Addr) : Prop := (∃ dx, H s = some (.ins cS dx [("axioms", .ref la), ("rules", .ref lr)])) ∧ LA (PA' K) H la h.axioms ∧ LA (PA' K) H lr h.rules ∧ la ≠ lr
theorem SvA.same {K : PySem.W.Frag} {cS : Addr} {H H' : Hp} {h : Oc07.House} {s la lr : Addr} (st : Same H H') : SvA K cS H h s la lr → SvA K cS H' h s la lr := fun ⟨⟨dx, e⟩, q, r, n⟩ => ⟨⟨dx, st _ _ e⟩, q.same stP st, r.same stP st, n⟩
section
variable {P : Program} {w : World} {K : PySem.W.Frag} {mg : Str → Option Value} {base : Heap}
def spSeI (K : PySem.W.Frag) (cS : Addr) : Sp := fun vs H Q _ => ∃ (s dx : Addr), vs = [.ref s] ∧ H s = some (.ins cS dx []) ∧
  ∀ (H' : Hp) (la lr : Addr), SvA K cS H' Oc07.init s la lr → H la = none → H lr = none → KB H H' s → Q .non H'
theorem ok_seI (T : Txt K mg) : FnOk P w K mg base CX0 1 T.a_seI T.d_seI ["self"] (spSeI K T.c_Service) := by
  refine T.f_seI.ok sc_seI (fun vs H Q E h => ?_) (fun cdv A outer s H vs Q E hr h => ?_)
  · obtain ⟨s, dx, rfl, _⟩ := h
    rfl
  obtain ⟨p, dx, rfl, hp, q⟩ := h
  refine ⟨_, pss_cons (ps_fld (pv 0) (pe_lst pa_nil) rfl) (pss_one (ps_fld (pv 0) (pe_lst pa_nil) rfl)), ?_⟩
  refine ⟨(by decide : 0 ≤ sizeLine), fun la nla => ?_⟩
  have s1 : Same H (upd H la (.lst [])) := same_new nla
  have hp1 := s1 _ _ hp
  refine ⟨_, rfl, p, T.c_Service, dx, [], rfl, hp1, T.cl_Service, T.na_Service_axioms, (by show 0 < 1000; decide), ?_⟩
  have npa : la ≠ p := fun e => by rw [e] at nla; rw [nla] at hp; cases hp
  have hl1 : LA (PA' K) (upd (upd H la (.lst [])) p (.ins T.c_Service dx (putF "axioms" (.ref la) []))) la [] := (la_nil (R := PA' K) upd_same).ui hp1 stP
  have hp2 : upd (upd H la (.lst [])) p (.ins T.c_Service dx (putF "axioms" (.ref la) [])) p = some (.ins T.c_Service dx [("axioms", .ref la)]) := upd_same
  have kb2 : KB H (upd (upd H la (.lst [])) p (.ins T.c_Service dx (putF "axioms" (.ref la) []))) p := (KB.of s1).trans KB.up
  generalize upd (upd H la (.lst [])) p (.ins T.c_Service dx (putF "axioms" (.ref la) [])) = H2 at hl1 hp2 kb2
  refine ⟨(by decide : 0 ≤ sizeLine), fun lr nlr => ?_⟩
  have s3 : Same H2 (upd H2 lr (.lst [])) := same_new nlr
  have hp3 := s3 _ _ hp2
  refine ⟨_, rfl, p, T.c_Service, dx, _, rfl, hp3, T.cl_Service, T.na_Service_rules, (by show 1 < 1000; decide), ?_⟩
  have nlr0 : H lr = none := by
    cases e : H lr with
    | none => rfl
    | some ob =>
      by_cases z : lr = p
      · rw [z, hp2] at nlr; cases nlr
      · rw [kb2 lr ob e z] at nlr; cases nlr
  have nar : la ≠ lr := fun e => by
    obtain ⟨vs, hv, _⟩ := hl1
    rw [e, nlr] at hv
    cases hv
  have e2 : putF ("rules" : Str) (V.ref lr) [(("axioms" : Str), V.ref la)] = ([(("axioms" : Str), V.ref la), (("rules" : Str), V.ref lr)] : List (Str × V)) := (putp (by decide +kernel)).trans rfl
  exact q _ la lr ⟨⟨dx, by rw [upd_same, e2]⟩, (hl1.same stP s3).ui hp3 stP, (la_nil (R := PA' K) upd_same).ui hp3 stP, nar⟩ nla nlr0 ((kb2.trans (KB.of s3)).trans KB.up)
def spWith (K : PySem.W.Frag) (cS cR : Addr) : Sp := fun vs H Q E => ∃ (s la lr m : Addr) (h : Oc07.House) (cs : List C), vs = [.ref s, .ref m] ∧ SvA K cS H h s la lr ∧ HOK h ∧ LA (CA K) H m cs ∧ cs.length ≤ 2 ∧ (∀ c ∈ cs, Sm c) ∧
  (Oc07.much h cs = true → RefE cR H E (-7)) ∧ (Oc07.much h cs = false → ∀ (H' : Hp) (l : Addr) (as : List C), Same H H' → H l = none → LA (CA K) H' l as → GatOk h cs as → Q (.ref l) H')
theorem ok_atWith (T : Txt K mg) : FnOk P w K mg base (L2.CX P w) 3 T.a_atWith T.d_atWith ["self", "more"] (spWith K T.c_Service T.c_Ref) := by
  have GA := ok_allAt (P := P) (w := w) (base := base) T
  have GR := ok_reI (P := P) (w := w) (base := base) T
  refine T.f_atWith.okX sc_atWith (fun vs H Q E h => ?_) (fun cdv A outer s H vs Q E hr h => ?_)
  · obtain ⟨s, la, lr, m, h, cs, rfl, _⟩ := h
    rfl
  obtain ⟨p, la, lr, m, h, cs, rfl, hS, hk, hm, h2, hsm, hbad, hgood⟩ := h
  have tk := L2.takes_of (X := cxOf (L2.CX P w) P w K mg base ["self", "more", "concepts", "one", "other", "found"] "Service.atoms_with" (defScope s_atWith) T.a_atWith cdv A outer s H E) rfl rfl rfl rfl
  refine ⟨_, pss_cons (ps_set (i := 2) sc_atWith.nd rfl (Or.inl rfl) (pe_callTy call_list_of rfl T.z_list (by decide +kernel) (pa_cons (pv 1) pa_nil)))
    (pss_cons (ps_for (passes_of rfl) rfl (pi_list (pe_op op_cat (pe_fld (pv 0) rfl) (pe_fld (pv 0) rfl)))
        (pg_tup rfl (pgs_cons (pg_name (i := 3) sc_atWith.nd rfl (Or.inl rfl)) (pgs_cons (pg_name (i := 4) sc_atWith.nd rfl (Or.inl rfl)) pgs_nil)))
        (pss_one (ps_expr (pe_bm PySem.F.plainAttrs_list PySem.F.slot_list_extend PySem.F.type_list_extend mt_extend (pv 2) (pa_cons (pe_lst (pa_cons (pv 3) (pa_cons (pv 4) pa_nil))) pa_nil)))))
    (pss_cons (ps_set (i := 5) sc_atWith.nd rfl (Or.inl rfl) (pe_call GA hr rfl T.g_allAt T.f_allAt.kp T.b_allAt .nil pass0 (pa_cons (pv 2) pa_nil)))
    (pss_cons (ps_if (pt_cmpR op_gt (pe_callB call_len_seq rfl T.z_len PySem.boot_len (pa_cons (pv 5) pa_nil)) (gI T.k_MOST_ATOMS) (nomark _))
      (pss_one (ps_raise rfl tk (pmk_oex T.xR T.iR T.yR GR hr T.b_reI .nil pass0 rfl T.gR (pa_cons (gI T.k_TOO_MANY) pa_nil)))) pss_nil)
    (pss_one (ps_ret (pv 5)))))), ?_⟩
  obtain ⟨⟨dx, hp⟩, hla, hlr, nlr⟩ := id hS
  obtain ⟨mv, hmv, pmv⟩ := id hm
  refine ⟨_, rfl, m, mv, rfl, .inl (SqL.of hmv), fun cc ncc => ?_⟩
  have s1 : Same H (upd H cc (.lst mv)) := same_new ncc
  have hcc1 : LA (CA K) (upd H cc (.lst mv)) cc cs := ⟨mv, upd_same, paired_imp (fun _ _ q => q.ts s1.ts) pmv⟩
  have hp1 := s1 _ _ hp
  obtain ⟨av, hav, pav⟩ := hla.same stP s1
  obtain ⟨rv, hrv, prv⟩ := hlr.same stP s1
  generalize upd H cc (.lst mv) = H1 at s1 hcc1 hp1 hav pav hrv prv
  have l1 := paired_len pav
  have l2 := paired_len prv
  have hx3 := hk.ax
  have hr4 := hk.ru
  refine ⟨_, rfl, p, T.c_Service, dx, _, _, rfl, hp1, T.cl_Service, T.na_Service_axioms, lkh, _, rfl, p, T.c_Service, dx, _, _, rfl, hp1, T.cl_Service, T.na_Service_rules, (lkp (by decide +kernel)).trans lkh, la, lr, av, rv, rfl, rfl, hav, hrv, Nat.le_of_lt (line_big (by omega)), fun q nq => ?_⟩
  have s2 : Same H1 (upd H1 q (.lst (av ++ rv))) := same_new nq
  have hq2 : upd H1 q (.lst (av ++ rv)) q = some (.lst (av ++ rv)) := upd_same
  have hcc2 := hcc1.same stC s2
  have pq := paired_app pav prv
  have nqc : q ≠ cc := fun e => by
    obtain ⟨us, hus, _⟩ := hcc1
    rw [← e, nq] at hus
    cases hus
  have s12 := s1.trans s2
  generalize upd H1 q (.lst (av ++ rv)) = H2 at s2 hq2 hcc2 s12
  refine ⟨q, rfl, ⟨_, SqL.of hq2⟩, ?_⟩
  refine for_it (walk_list (K := K) (a := q) (xs := av ++ rv)) (fun i σ H' => ∃ ov tv : Option V, σ = [some (.ref p), some (.ref m), some (.ref cc), ov, tv, none] ∧ Same H H' ∧ H' q = some (.lst (av ++ rv)) ∧ Same H1 H2 ∧ TS H1 H' ∧ LA (CA K) H' cc (cs ++ bothL ((h.axioms ++ h.rules).take i)))
    ⟨none, none, rfl, s12, hq2, s2, s2.ts, by rw [List.take_zero]; show LA (CA K) H2 cc (cs ++ []); rw [List.append_nil]; exact hcc2⟩ (fun i σ H' _ ⟨_, _, _, _, e, _⟩ => SqL.of e) ?_ ?_
  · rintro i x σ H3 H4 hi ⟨ov, tv, rfl, s3, hq3, _, t3, hc3⟩ ⟨rfl, hx⟩
    obtain ⟨r, hr', ra⟩ := paired_at pq hx
    obtain ⟨t, u, u2, rfl, htt, hu, hu2⟩ := ra.ts t3
    refine ⟨t, _, rfl, htt, rfl, u, _, rfl, u2, _, rfl, rfl, ?_⟩
    obtain ⟨us, hus, pus⟩ := hc3
    refine ⟨_, rfl, .inl ⟨rfl, _, SqL.of hus⟩, _, rfl, _, rfl, small2, fun z nz => ?_⟩
    have s5 : Same H4 (upd H4 z (.lst [u, u2])) := same_new nz
    have l3 := paired_len pus
    have l4 := bothL_len ((h.axioms ++ h.rules).take i)
    have l5 := List.length_take_le' i (h.axioms ++ h.rules)
    have l6 := hk.len
    rw [List.length_append] at l3
    refine ⟨cc, z, us, [u, u2], rfl, rfl, s5 _ _ hus, upd_same, Nat.le_of_lt (line_big (by show us.length + 2 ≤ _; omega)), ?_⟩
    have t6 : TS (upd H4 z (.lst [u, u2])) (upd (upd H4 z (.lst [u, u2])) cc (.lst (us ++ [u, u2]))) := TS.lst (s5 _ _ hus)
    have t7 := s5.ts.trans t6
    refine ⟨_, _, rfl, same_upd (s3.trans s5) ncc, ?_, s2, t3.trans t7, ⟨us ++ [u, u2], upd_same, ?_⟩⟩
    · rw [upd_ne nqc]
      exact s5 _ _ hq3
    · have e : cs ++ bothL ((h.axioms ++ h.rules).take (i + 1)) = (cs ++ bothL ((h.axioms ++ h.rules).take i)) ++ [r.1, r.2] := by
        rw [take_succ' hr', List.append_assoc]
        unfold bothL
        rw [List.flatMap_append]
        rfl
      rw [e]
      exact paired_app (paired_imp (fun _ _ q => q.ts t7) pus) (.cons (hu.ts t7) (.cons (hu2.ts t7) .nil))
  · rintro σ H3 ⟨ov, tv, rfl, s3, hq3, _, t3, hc3⟩
    have e : (h.axioms ++ h.rules).take (av ++ rv).length = h.axioms ++ h.rules := List.take_of_length_le (by rw [List.length_append, List.length_append, l1, l2]; exact Nat.le_refl _)
    rw [e] at hc3
    have hall : ∀ c ∈ cs ++ bothL (h.axioms ++ h.rules), Sm c := fun c hc => (List.mem_append.mp hc).elim (hsm c) (bothL_sm hk.sm c)
    have l4 := bothL_len (h.axioms ++ h.rules)
    have l6 := hk.len
    have hsz := szs_le (n := 16) hall (by rw [List.length_append]; omega)
    refine ⟨_, rfl, cc, _, rfl, hc3, hall, Nat.le_trans hsz (by decide), fun H4 l as s4 nl hl nd mem => ?_⟩
    have s5 := s3.trans s4
    have hmu := much_len (h := h) (cs := cs) nd mem
    obtain ⟨ys, hys, pys⟩ := id hl
    refine ⟨_, rfl, l, ys, rfl, .inl (SqL.of hys), _, _, rfl, rfl, ?_⟩
    rw [← paired_len pys]
    by_cases h4 : 4 < as.length
    · rw [decide_eq_true h4] at hmu
      have hd : decide ((4 : Int) < ((as.length : Nat) : Int)) = true := decide_eq_true (by omega)
      refine ⟨_, rfl, ?_⟩
      rw [hd]
      exact iteT (out_ref (RefE.of s5 (hbad hmu)))
    · rw [decide_eq_false h4] at hmu
      have hd : decide ((4 : Int) < ((as.length : Nat) : Int)) = false := decide_eq_false (by omega)
      refine ⟨_, rfl, ?_⟩
      rw [hd]
      exact iteF ⟨_, rfl, hgood hmu _ l as s5 (s3.free nl) hl ⟨nd, mem, by omega⟩⟩
end
end Ex
/-! The service's ranking; the operations that ask. -/
namespace Ex
open PySem PySem.Spec PyProof.Rows L2
open Oc (C)
open ExM (In)
/-! ### plain: one concept, two concepts -/
theorem rd_one {l : List Nat} {c : C} : Oc.concept l = some c ↔ rdMany 1 l = some ([c], []) := by
  unfold Oc.concept
  cases e : Oc.read (l.length + 1) l with
  | none =>
    rw [rdMany_none e]
    simp
  | some x =>
    obtain ⟨d, r⟩ := x
    rw [rdMany_some e]
    show _ ↔ some ([d], r) = _
    cases r with
    | nil => simp
    | cons y ys => simp
theorem no_one {l : List Nat} (h : Oc.concept l = none) (cs : List C) : rdMany 1 l ≠ some (cs, []) := fun z => by
  obtain ⟨q1, _⟩ := rdMany_sz 1 l cs [] z
  match cs, q1 with
  | [c], _ =>
    rw [rd_one.mpr z] at h
    cases h
theorem rdMany_one_len {l l' : List Nat} (k : Nat) {d : C} (h : Oc.read (l.length + 1) l = some (d, l')) : rdMany (k + 1) l = (rdMany k l').map fun y => (d :: y.1, y.2) := rdMany_some h
theorem rd_two {l : List Nat} {a : Rl} : Oc.two l = some a ↔ rdMany 2 l = some ([a.1, a.2], []) := by
  unfold Oc.two
  cases e : Oc.read (l.length + 1) l with
  | none =>
    rw [rdMany_none e]
    simp
  | some x =>
    obtain ⟨d, r⟩ := x
    rw [rdMany_some e]
    show (Oc.concept r).map (fun z => (d, z)) = some a ↔ _
    cases e1 : Oc.concept r with
    | some z =>
      rw [rd_one.mp e1]
      obtain ⟨a1, a2⟩ := a
      simp
    | none =>
      constructor
      · intro q; cases q
      · intro q
        cases e2 : rdMany 1 r with
        | none => rw [e2] at q; cases q
        | some y =>
          obtain ⟨y1, y2⟩ := y
          rw [e2] at q
          have q1 := Option.some.inj q
          have q2 : y2 = [] := (Prod.mk.inj q1).2
          subst q2
          exact absurd e2 (no_one e1 y1)
theorem no_two {l : List Nat} (h : Oc.two l = none) (cs : List C) : rdMany 2 l ≠ some (cs, []) := fun z => by
  obtain ⟨q1, _⟩ := rdMany_sz 2 l cs [] z
  match cs, q1 with
  | [c, d], _ =>
    rw [rd_two (a := (c, d)) |>.mpr z] at h
    cases h
theorem two_sm {l : List Nat} {cs : List C} {m : Nat} (hl : l.length ≤ 30) (z : rdMany m l = some (cs, [])) : ∀ c ∈ cs, Sm c := fun c hc => Nat.le_trans ((rdMany_sz m l cs [] z).2 c hc) hl
/-! ### what an operation brings about -/
/-- the house's own lists are those of before, or new; all else stands -/
structure SvF (H H' : Hp) (s la lr la' lr' : Addr) : Prop where
  k : ∀ b ob, H b = some ob → b ≠ s → b ≠ la → b ≠ lr → H' b = some ob
  a : la' = la ∨ H la' = none
  r : lr' = lr ∨ H lr' = none
theorem SvF.of {H H' : Hp} {s la lr : Addr} (st : Same H H') : SvF H H' s la lr la lr := ⟨fun b ob e _ _ _ => st b ob e, .inl rfl, .inl rfl⟩
def OutQ (K : PySem.W.Frag) (cS : Addr) (H : Hp) (Q : VK) (s la lr : Addr) (x : Oc07.House × Oc07.Ans) : Prop := ∀ (H' : Hp) (l la' lr' : Addr), SvA K cS H' x.1 s la' lr' → HOK x.1 → SvF H H' s la lr la' lr' →
  H' l = some (.lst ((Oc07Neutral.out x.2).map V.int)) → Q (.ref l) H'
def OutE (cR : Addr) (H : Hp) (E : XK) (h : Oc07.House) (x : Oc07.House × Oc07.Ans) : Prop := ∀ code : Int, x = (h, Oc07.ok code) → RefE cR H E code
theorem OutQ.stay {K : PySem.W.Frag} {cS : Addr} {H H1 : Hp} {Q : VK} {s la lr : Addr} {h : Oc07.House} {a : Oc07.Ans} {x : Oc07.House × Oc07.Ans} (q : OutQ K cS H Q s la lr x) (e : x = (h, a)) (hS : SvA K cS H h s la lr) (hk : HOK h) (st : Same H H1) {l : Addr} {ys : List V}
    (hl : H1 l = some (.lst ys)) (hy : ys = (Oc07Neutral.out a).map V.int) : Q (.ref l) H1 := by
  subst e
  exact q H1 l la lr (hS.same st) hk (SvF.of st) (by rw [hl, hy])
section
variable {P : Program} {w : World} {K : PySem.W.Frag} {mg : Str → Option Value} {base : Heap}
def spRking (K : PySem.W.Frag) (cA cM cR cS cE : Addr) : Sp := fun vs H Q E => ∃ (s la lr m : Addr) (h : Oc07.House) (cs : List C), vs = [.ref s, .ref m] ∧ SvA K cS H h s la lr ∧ HOK h ∧ LA (CA K) H m cs ∧ cs.length ≤ 2 ∧ (∀ c ∈ cs, Sm c) ∧
  (Oc07.much h cs = true → RefE cE H E (-7)) ∧
  (Oc07.much h cs = false → ∀ (H' : Hp) (p : Addr) (own : List C), Same H H' → RaA K cA cM cR H' own (Oc07.book h.axioms h.rules) p → BkOk own (Oc07.book h.axioms h.rules) → (∀ c ∈ cs, In own c) → Q (.ref p) H')
theorem ok_ranking (T : Txt K mg) : FnOk P w K mg base (L2.CX P w) 40 T.a_ranking T.d_ranking ["self", "more"] (spRking K T.c_Atoms T.c_Models T.c_Ranking T.c_Service T.c_Ref) := by
  have GW := ok_atWith (P := P) (w := w) (base := base) T
  have GA := ok_atI (P := P) (w := w) (base := base) T
  have GR := ok_raI (P := P) (w := w) (base := base) T
  refine T.f_ranking.okX sc_ranking (fun vs H Q E h => ?_) (fun cdv A outer s H vs Q E hr h => ?_)
  · obtain ⟨s, la, lr, m, h, cs, rfl, _⟩ := h
    rfl
  obtain ⟨p, la, lr, m, h, cs, rfl, hS, hk, hm, h2, hsm, hbad, hgood⟩ := h
  have tk := L2.takes_of (X := cxOf (L2.CX P w) P w K mg base ["self", "more"] "Service.ranking" (defScope s_ranking) T.a_ranking cdv A outer s H E) rfl rfl rfl rfl
  have hrA : Room 2 _ := hr.mono (by decide)
  have hrW : Room 3 _ := hr.mono (by decide)
  refine ⟨_, pss_one (ps_ret (pe_make T.m_raI GR hr rfl T.gc_Ranking T.b_raI .nil pass0 (pa_cons (pe_make T.m_atI GA hrA rfl T.gc_Atoms T.b_atI .nil pass0
      (pa_cons (pe_methA (pv 0) T.cl_Service T.m_atWith GW hrW T.b_atWith (fun σ => passAt tk σ) (by exact (pa_cons (pv 1) pa_nil))) pa_nil)) (pa_cons (pe_fld (pv 0) rfl) (pa_cons (pe_fld (pv 0) rfl) pa_nil))))), ?_⟩
  obtain ⟨⟨dx, hp⟩, hla, hlr, nlr⟩ := id hS
  refine ⟨_, rfl, p, dx, _, rfl, hp, lkn2 (by decide +kernel) (by decide +kernel), _, rfl, ?_⟩
  refine ⟨p, la, lr, m, h, cs, rfl, hS, hk, hm, h2, hsm, hbad, fun hmu H1 l as s1 nl hl g => fun x xd nx nd nxd => ?_⟩
  have sx : Same H1 (upd (upd H1 xd (.own x)) x (.ins T.c_Atoms xd [])) := (same_new nd).trans (same_new (by rw [upd_ne (Ne.symm nxd)]; exact nx))
  refine ⟨x, xd, l, as, rfl, upd_same, hl.same stC sx, fun H2 hA kx => ⟨rfl, ?_⟩⟩
  have s2 : Same H1 H2 := Same.made nx nd kx
  have s3 := s1.trans s2
  refine ⟨_, rfl, p, T.c_Service, dx, _, _, rfl, s3 _ _ hp, T.cl_Service, T.na_Service_axioms, lkh, _, rfl, p, T.c_Service, dx, _, _, rfl, s3 _ _ hp, T.cl_Service, T.na_Service_rules, (lkp (by decide +kernel)).trans lkh, fun y yd ny nyd nyyd => ?_⟩
  have sy : Same H2 (upd (upd H2 yd (.own y)) y (.ins T.c_Ranking yd [])) := (same_new nyd).trans (same_new (by rw [upd_ne (Ne.symm nyyd)]; exact ny))
  have hx3 := hk.ax
  have hr4 := hk.ru
  refine ⟨y, yd, x, la, lr, as, h.axioms, h.rules, rfl, upd_same, hA.same sy, hla.same stP (s3.trans sy), hlr.same stP (s3.trans sy), g.ctx hk hsm, g.rul hk, by omega, fun H4 hR hB ky => ⟨rfl, ?_⟩⟩
  exact hgood hmu H4 y as (s3.trans (Same.made ny nyd ky)) hR hB fun c hc => g.inn hc
/-! ### the operations that ask -/
/-- what stands ahead of an operation -/
structure Ahead (K : PySem.W.Frag) (cS cE : Addr) (H : Hp) (Q : VK) (E : XK) (s la lr : Addr) (h : Oc07.House) (x : Oc07.House × Oc07.Ans) : Prop where
  S : SvA K cS H h s la lr
  k : HOK h
  q : OutQ K cS H Q s la lr x
  e : OutE cE H E h x
def spOp (K : PySem.W.Frag) (cS cE : Addr) (mk : List Nat → Oc07.Call) : Sp := fun vs H Q E => ∃ (s la lr a : Addr) (h : Oc07.House) (ns : List Int), vs = [.ref s, .ref a] ∧ SqL K H a (ns.map V.int) ∧ (∀ x ∈ ns, 0 ≤ x) ∧ ns.length ≤ 30 ∧
  Ahead K cS cE H Q E s la lr h (Oc07.step h (mk (nats ns)))
theorem out_ok (v : Int) : (Oc07Neutral.out (Oc07.ok v)).map V.int = [.int v] := rfl
theorem flag_int (b : Bool) : (if b then (1 : Int) else 0) = ((Oc07.flag b : Nat) : Int) := by cases b <;> rfl
theorem step_normally (h : Oc07.House) (l : List Nat) : Oc07.step h (.normally l) = match Oc.two l with
  | none => (h, Oc07.ok (-1))
  | some a => if Oc07.much h [a.1, a.2] = true then (h, Oc07.ok (-7)) else (h, Oc07.ok (Oc07.flag (norm (Oc07.book h.axioms h.rules) a.1 a.2) : Nat)) := rfl
theorem ok_normally (T : Txt K mg) : FnOk P w K mg base (L2.CX P w) 41 T.a_normally T.d_normally ["self", "numbers"] (spOp K T.c_Service T.c_Ref .normally) := by
  have GT := ok_toldC (P := P) (w := w) (base := base) T
  have GR := ok_ranking (P := P) (w := w) (base := base) T
  have GN := ok_isNor (P := P) (w := w) (base := base) T
  refine T.f_normally.okX sc_normally (fun vs H Q E h => ?_) (fun cdv A outer s H vs Q E hr h => ?_)
  · obtain ⟨s, la, lr, a, h, ns, rfl, _⟩ := h
    rfl
  obtain ⟨p, la, lr, a, h, ns, rfl, hN, hpos, h30, hA⟩ := h
  obtain ⟨hS, hk, hq, he⟩ := hA
  have tk := L2.takes_of (X := cxOf (L2.CX P w) P w K mg base ["self", "numbers", "one", "other"] "Service.normally" (defScope s_normally) T.a_normally cdv A outer s H E) rfl rfl rfl rfl
  have hrT : Room 36 _ := hr.mono (by decide)
  have hrN : Room 37 _ := hr.mono (by decide)
  refine ⟨_, pss_cons (ps_asg (pe_callS GT hrT rfl T.g_toldC T.f_toldC.kp T.b_toldC (fun σ => passAt tk σ) (by exact (pa_cons (pv 1) (pa_cons pe_int pa_nil))))
      (pg_lst rfl (pgs_cons (pg_name (i := 2) sc_normally.nd rfl (Or.inl rfl)) (pgs_cons (pg_name (i := 3) sc_normally.nd rfl (Or.inl rfl)) pgs_nil))))
    (pss_one (ps_ret (pe_lst (pa_cons (pe_callTy call_int1 rfl T.z_int (by decide +kernel) (pa_cons
      (pe_meth (pe_methA (pv 0) T.cl_Service T.m_ranking GR hr T.b_ranking (fun σ => passAt tk σ) (by exact (pa_cons (pe_lst (pa_cons (pv 2) (pa_cons (pv 3) pa_nil))) pa_nil))) T.cl_Ranking T.m_isNor GN hrN T.b_isNor .nil pass0 (pa_cons (pv 2) (pa_cons (pv 3) pa_nil))) pa_nil)) pa_nil)))), ?_⟩
  have hlen : (nats ns).length ≤ 30 := by rw [nats_len]; exact h30
  have hst := step_normally h (nats ns)
  refine ⟨_, rfl, a, ns, 2, rfl, hN, hpos, h30, Nat.le_refl _, fun hx => ?_, fun cs hx H1 l s1 nl hl => ?_⟩
  · have e : Oc.two (nats ns) = none := by
      cases e : Oc.two (nats ns) with
      | none => rfl
      | some b => exact absurd (rd_two.mp e) (hx _)
    rw [e] at hst
    exact he (-1) hst
  · obtain ⟨q1, _⟩ := rdMany_sz 2 _ cs [] hx
    match cs, q1 with
    | [c, d], _ =>
      have hsm := two_sm hlen hx
      have e : Oc.two (nats ns) = some (c, d) := rd_two.mpr hx
      rw [e] at hst
      replace hst : Oc07.step h (.normally (nats ns)) = if Oc07.much h [c, d] = true then (h, Oc07.ok (-7)) else (h, Oc07.ok (Oc07.flag (norm (Oc07.book h.axioms h.rules) c d) : Nat)) := hst
      obtain ⟨vs, hvs, pvs⟩ := hl
      cases pvs with
      | cons hc pvs =>
      cases pvs with
      | cons hd pvs =>
      cases pvs
      rename_i cv dv
      refine ⟨l, [cv, dv], rfl, SqL.of hvs, rfl, cv, _, rfl, dv, _, rfl, rfl, ?_⟩
      obtain ⟨⟨dx, hp⟩, _⟩ := id hS
      refine ⟨_, rfl, p, dx, _, rfl, s1 _ _ hp, lkn2 (by decide +kernel) (by decide +kernel), _, rfl, _, rfl, small2, fun z nz => ?_⟩
      have s2 : Same H1 (upd H1 z (.lst [cv, dv])) := same_new nz
      have s3 := s1.trans s2
      refine ⟨p, la, lr, z, h, [c, d], rfl, hS.same s3, hk, ⟨[cv, dv], upd_same, .cons (hc.ts s2.ts) (.cons (hd.ts s2.ts) .nil)⟩, Nat.le_refl _, hsm, fun hmu => ?_, fun hmu H3 r own s4 hR hB hin => ?_⟩
      · rw [if_pos hmu] at hst
        exact RefE.of s3 (he (-7) hst)
      · rw [if_neg (by rw [hmu]; exact Bool.false_ne_true)] at hst
        have s5 := s3.trans s4
        obtain ⟨dr, mo, rl, hins, _⟩ := id hR
        refine ⟨r, dr, _, rfl, hins, lkn2 (by decide +kernel) (by decide +kernel), _, rfl, _, rfl, ?_⟩
        refine ⟨r, cv, dv, own, _, c, d, rfl, hR, hc.ts (s2.trans s4).ts, hd.ts (s2.trans s4).ts, hB, hin c List.mem_cons_self, hsm c List.mem_cons_self, hin d (List.mem_cons_of_mem _ List.mem_cons_self), hsm d (List.mem_cons_of_mem _ List.mem_cons_self), fun H5 s6 => ?_⟩
        refine .inr ⟨_, rfl, small1, fun y ny => ?_⟩
        refine hq.stay hst hS hk ((s5.trans s6).trans (same_new ny)) upd_same ?_
        rw [out_ok, flag_int]
theorem step_always (h : Oc07.House) (l : List Nat) : Oc07.step h (.always l) = match Oc.two l with
  | none => (h, Oc07.ok (-1))
  | some a => if Oc07.much h [a.1, a.2] = true then (h, Oc07.ok (-7)) else (h, Oc07.ok (Oc07.flag (alw (Oc07.book h.axioms h.rules) a.1 a.2) : Nat)) := rfl
theorem ok_always (T : Txt K mg) : FnOk P w K mg base (L2.CX P w) 41 T.a_always T.d_always ["self", "numbers"] (spOp K T.c_Service T.c_Ref .always) := by
  have GT := ok_toldC (P := P) (w := w) (base := base) T
  have GR := ok_ranking (P := P) (w := w) (base := base) T
  have GN := ok_isAlw (P := P) (w := w) (base := base) T
  refine T.f_always.okX sc_always (fun vs H Q E h => ?_) (fun cdv A outer s H vs Q E hr h => ?_)
  · obtain ⟨s, la, lr, a, h, ns, rfl, _⟩ := h
    rfl
  obtain ⟨p, la, lr, a, h, ns, rfl, hN, hpos, h30, hA⟩ := h
  obtain ⟨hS, hk, hq, he⟩ := hA
  have tk := L2.takes_of (X := cxOf (L2.CX P w) P w K mg base ["self", "numbers", "one", "other"] "Service.always" (defScope s_always) T.a_always cdv A outer s H E) rfl rfl rfl rfl
  have hrT : Room 36 _ := hr.mono (by decide)
  have hrN : Room 37 _ := hr.mono (by decide)
  refine ⟨_, pss_cons (ps_asg (pe_callS GT hrT rfl T.g_toldC T.f_toldC.kp T.b_toldC (fun σ => passAt tk σ) (by exact (pa_cons (pv 1) (pa_cons pe_int pa_nil))))
      (pg_lst rfl (pgs_cons (pg_name (i := 2) sc_always.nd rfl (Or.inl rfl)) (pgs_cons (pg_name (i := 3) sc_always.nd rfl (Or.inl rfl)) pgs_nil))))
    (pss_one (ps_ret (pe_lst (pa_cons (pe_callTy call_int1 rfl T.z_int (by decide +kernel) (pa_cons
      (pe_meth (pe_methA (pv 0) T.cl_Service T.m_ranking GR hr T.b_ranking (fun σ => passAt tk σ) (by exact (pa_cons (pe_lst (pa_cons (pv 2) (pa_cons (pv 3) pa_nil))) pa_nil))) T.cl_Ranking T.m_isAlw GN hrN T.b_isAlw .nil pass0 (pa_cons (pv 2) (pa_cons (pv 3) pa_nil))) pa_nil)) pa_nil)))), ?_⟩
  have hlen : (nats ns).length ≤ 30 := by rw [nats_len]; exact h30
  have hst := step_always h (nats ns)
  refine ⟨_, rfl, a, ns, 2, rfl, hN, hpos, h30, Nat.le_refl _, fun hx => ?_, fun cs hx H1 l s1 nl hl => ?_⟩
  · have e : Oc.two (nats ns) = none := by
      cases e : Oc.two (nats ns) with
      | none => rfl
      | some b => exact absurd (rd_two.mp e) (hx _)
    rw [e] at hst
    exact he (-1) hst
  · obtain ⟨q1, _⟩ := rdMany_sz 2 _ cs [] hx
    match cs, q1 with
    | [c, d], _ =>
      have hsm := two_sm hlen hx
      have e : Oc.two (nats ns) = some (c, d) := rd_two.mpr hx
      rw [e] at hst
      replace hst : Oc07.step h (.always (nats ns)) = if Oc07.much h [c, d] = true then (h, Oc07.ok (-7)) else (h, Oc07.ok (Oc07.flag (alw (Oc07.book h.axioms h.rules) c d) : Nat)) := hst
      obtain ⟨vs, hvs, pvs⟩ := hl
      cases pvs with
      | cons hc pvs =>
      cases pvs with
      | cons hd pvs =>
      cases pvs
      rename_i cv dv
      refine ⟨l, [cv, dv], rfl, SqL.of hvs, rfl, cv, _, rfl, dv, _, rfl, rfl, ?_⟩
      obtain ⟨⟨dx, hp⟩, _⟩ := id hS
      refine ⟨_, rfl, p, dx, _, rfl, s1 _ _ hp, lkn2 (by decide +kernel) (by decide +kernel), _, rfl, _, rfl, small2, fun z nz => ?_⟩
      have s2 : Same H1 (upd H1 z (.lst [cv, dv])) := same_new nz
      have s3 := s1.trans s2
      refine ⟨p, la, lr, z, h, [c, d], rfl, hS.same s3, hk, ⟨[cv, dv], upd_same, .cons (hc.ts s2.ts) (.cons (hd.ts s2.ts) .nil)⟩, Nat.le_refl _, hsm, fun hmu => ?_, fun hmu H3 r own s4 hR hB hin => ?_⟩
      · rw [if_pos hmu] at hst
        exact RefE.of s3 (he (-7) hst)
      · rw [if_neg (by rw [hmu]; exact Bool.false_ne_true)] at hst
        have s5 := s3.trans s4
        obtain ⟨dr, mo, rl, hins, _⟩ := id hR
        refine ⟨r, dr, _, rfl, hins, lkn2 (by decide +kernel) (by decide +kernel), _, rfl, _, rfl, ?_⟩
        refine ⟨r, cv, dv, own, _, c, d, rfl, hR, hc.ts (s2.trans s4).ts, hd.ts (s2.trans s4).ts, hB, hin c List.mem_cons_self, hsm c List.mem_cons_self, hin d (List.mem_cons_of_mem _ List.mem_cons_self), hsm d (List.mem_cons_of_mem _ List.mem_cons_self), fun H5 s6 => ?_⟩
        refine .inr ⟨_, rfl, small1, fun y ny => ?_⟩
        refine hq.stay hst hS hk ((s5.trans s6).trans (same_new ny)) upd_same ?_
        rw [out_ok, flag_int]
end
end Ex
/-! rank, told_ranks. -/
namespace Ex
open PySem PySem.Spec PyProof.Rows L2
open Oc (C)
open ExM (In)
def NA (_ : Hp) (n : Nat) (v : V) : Prop := v = .int (n : Int)
theorem stN : Stays NA := ⟨fun _ _ _ _ _ h => h⟩
theorem paired_nat : ∀ {bs : List Nat} {us : List V} {H : Hp}, Paired (NA H) bs us → us = bs.map fun n : Nat => V.int (n : Int)
  | _, _, _, .nil => rfl
  | _, _, _, .cons r t => by
    rw [List.map_cons, ← paired_nat t]
    exact congrArg (· :: _) r
section
variable {P : Program} {w : World} {K : PySem.W.Frag} {mg : Str → Option Value} {base : Heap}
theorem step_rank (h : Oc07.House) (l : List Nat) : Oc07.step h (.rank l) = match Oc.concept l with
  | none => (h, Oc07.ok (-1))
  | some c => if Oc07.much h [c] = true then (h, Oc07.ok (-7)) else (h, ⟨(Oc07.rankOf (Oc07.book h.axioms h.rules) c : Nat), [(Oc07.book h.axioms h.rules).2.length]⟩) := rfl
theorem ok_rank (T : Txt K mg) : FnOk P w K mg base (L2.CX P w) 41 T.a_rank T.d_rank ["self", "numbers"] (spOp K T.c_Service T.c_Ref .rank) := by
  have GT := ok_toldC (P := P) (w := w) (base := base) T
  have GR := ok_ranking (P := P) (w := w) (base := base) T
  have GN := ok_rankOf (P := P) (w := w) (base := base) T
  refine T.f_rank.okX sc_rank (fun vs H Q E h => ?_) (fun cdv A outer s H vs Q E hr h => ?_)
  · obtain ⟨s, la, lr, a, h, ns, rfl, _⟩ := h
    rfl
  obtain ⟨p, la, lr, a, h, ns, rfl, hN, hpos, h30, hA⟩ := h
  obtain ⟨hS, hk, hq, he⟩ := hA
  have tk := L2.takes_of (X := cxOf (L2.CX P w) P w K mg base ["self", "numbers", "concept", "ranking"] "Service.rank" (defScope s_rank) T.a_rank cdv A outer s H E) rfl rfl rfl rfl
  have hrT : Room 36 _ := hr.mono (by decide)
  have hrN : Room 35 _ := hr.mono (by decide)
  refine ⟨_, pss_cons (ps_set (i := 2) sc_rank.nd rfl (Or.inl rfl) (pe_ix ix_list (pe_callS GT hrT rfl T.g_toldC T.f_toldC.kp T.b_toldC (fun σ => passAt tk σ) (by exact (pa_cons (pv 1) (pa_cons pe_int pa_nil)))) pe_int (fun _ _ => rfl)))
    (pss_cons (ps_set (i := 3) sc_rank.nd rfl (Or.inl rfl) (pe_methA (pv 0) T.cl_Service T.m_ranking GR hr T.b_ranking (fun σ => passAt tk σ) (by exact (pa_cons (pe_lst (pa_cons (pv 2) pa_nil)) pa_nil))))
    (pss_one (ps_ret (pe_lst (pa_cons (pe_meth (pv 3) T.cl_Ranking T.m_rankOf GN hrN T.b_rankOf .nil pass0 (pa_cons (pv 2) pa_nil)) (pa_cons (pe_callB call_len_seq rfl T.z_len PySem.boot_len (pa_cons (pe_fld (pv 3) rfl) pa_nil)) pa_nil)))))), ?_⟩
  have hlen : (nats ns).length ≤ 30 := by rw [nats_len]; exact h30
  have hst := step_rank h (nats ns)
  refine ⟨_, rfl, a, ns, 1, rfl, hN, hpos, h30, (by decide), fun hx => ?_, fun cs hx H1 l s1 nl hl => ?_⟩
  · have e : Oc.concept (nats ns) = none := by
      cases e : Oc.concept (nats ns) with
      | none => rfl
      | some b => exact absurd (rd_one.mp e) (hx _)
    rw [e] at hst
    exact he (-1) hst
  · obtain ⟨q1, _⟩ := rdMany_sz 1 _ cs [] hx
    match cs, q1 with
    | [c], _ =>
      have hsm := two_sm hlen hx
      have e : Oc.concept (nats ns) = some c := rd_one.mpr hx
      rw [e] at hst
      replace hst : Oc07.step h (.rank (nats ns)) = if Oc07.much h [c] = true then (h, Oc07.ok (-7)) else (h, ⟨(Oc07.rankOf (Oc07.book h.axioms h.rules) c : Nat), [(Oc07.book h.axioms h.rules).2.length]⟩) := hst
      obtain ⟨vs, hvs, pvs⟩ := hl
      cases pvs with
      | cons hc pvs =>
      cases pvs
      rename_i cv
      refine ⟨l, [cv], _, cv, rfl, rfl, SqL.of hvs, atI_nat (j := 0) rfl, ?_⟩
      obtain ⟨⟨dx, hp⟩, _⟩ := id hS
      refine ⟨_, rfl, p, dx, _, rfl, s1 _ _ hp, lkn2 (by decide +kernel) (by decide +kernel), _, rfl, small1, fun z nz => ?_⟩
      have s2 : Same H1 (upd H1 z (.lst [cv])) := same_new nz
      have s3 := s1.trans s2
      refine ⟨p, la, lr, z, h, [c], rfl, hS.same s3, hk, ⟨[cv], upd_same, .cons (hc.ts s2.ts) .nil⟩, (by show 1 ≤ 2; decide), hsm, fun hmu => ?_, fun hmu H3 r own s4 hR hB hin => ?_⟩
      · rw [if_pos hmu] at hst
        exact RefE.of s3 (he (-7) hst)
      · rw [if_neg (by rw [hmu]; exact Bool.false_ne_true)] at hst
        have s5 := s3.trans s4
        obtain ⟨dr, mo, rl, hins, hM, hrk⟩ := id hR
        refine ⟨_, rfl, r, dr, _, rfl, hins, lkn2 (by decide +kernel) (by decide +kernel), _, rfl, ?_⟩
        refine ⟨r, cv, own, _, c, rfl, hR, hc.ts (s2.trans s4).ts, hB, hin c List.mem_cons_self, hsm c List.mem_cons_self, fun H5 s6 => ?_⟩
        obtain ⟨as, has, hna, pas⟩ := hrk.same s6
        refine ⟨_, rfl, r, T.c_Ranking, dr, _, _, rfl, s6 _ _ hins, T.cl_Ranking, T.na_Ranking_ranks, (lkp (by decide +kernel)).trans lkh, rl, _, rfl, .inl (SqL.of has), small2, fun y ny => ?_⟩
        refine hq.stay hst hS hk ((s5.trans s6).trans (same_new ny)) upd_same ?_
        rw [List.length_map, ← paired_lenG pas]
        rfl
theorem step_ranks (h : Oc07.House) : Oc07.step h .ranks = (h, ⟨((Oc07.book h.axioms h.rules).2.length : Nat), h.rules.map (ExM.manyRanks (Oc07.book h.axioms h.rules).2)⟩) := by
  rw [← ExM.told_eq]
  rfl
def spOp0 (K : PySem.W.Frag) (cS cE : Addr) (c : Oc07.Call) : Sp := fun vs H Q E => ∃ (s la lr : Addr) (h : Oc07.House), vs = [.ref s] ∧ Ahead K cS cE H Q E s la lr h (Oc07.step h c)
theorem ok_toldR (T : Txt K mg) : FnOk P w K mg base (L2.CX P w) 41 T.a_toldR T.d_toldR ["self"] (spOp0 K T.c_Service T.c_Ref .ranks) := by
  have GR := ok_ranking (P := P) (w := w) (base := base) T
  have GM := ok_manyR (P := P) (w := w) (base := base) T
  refine T.f_toldR.okX sc_toldR (fun vs H Q E h => ?_) (fun cdv A outer s H vs Q E hr h => ?_)
  · obtain ⟨s, la, lr, h, rfl, _⟩ := h
    rfl
  obtain ⟨p, la, lr, h, rfl, hA⟩ := h
  obtain ⟨hS, hk, hq, he⟩ := hA
  have tk := L2.takes_of (X := cxOf (L2.CX P w) P w K mg base ["self", "ranking", "rule"] "Service.told_ranks" (defScope s_toldR) T.a_toldR cdv A outer s H E) rfl rfl rfl rfl
  have hrM : Room 1 _ := hr.mono (by decide)
  refine ⟨_, pss_cons (ps_set (i := 1) sc_toldR.nd rfl (Or.inr rfl) (pe_methA (pv 0) T.cl_Service T.m_ranking GR hr T.b_ranking (fun σ => passAt tk σ) (by exact (pa_cons (pe_lst pa_nil) pa_nil))))
    (pss_one (ps_ret (pe_op op_cat (pe_lst (pa_cons (pe_callB call_len_seq rfl T.z_len PySem.boot_len (pa_cons (pe_fld (pv 1) rfl) pa_nil)) pa_nil))
      (pe_lc (own := [("rule", 2)]) (g := gName 2) (tt := tYes) (te := tMeth T.c_Ranking "many_ranks" (spMany K T.c_Atoms T.c_Models T.c_Ranking) [] E0 (tVar 1) (tCons (tVar 2) tNil))
        rfl sc_toldR.nd (pi_list (pe_fld (pv 0) rfl))
        (blkOk_by (own := [("rule", 2)]) (N := ["self", "ranking", "rule"]) (sc := defScope s_toldR) (by decide +kernel))
        (fun _ _ _ _ _ => pg_name (i := 2) sc_toldR.nd rfl (Or.inl rfl)) (fun _ _ _ _ _ => pts_nil)
        (fun _ _ _ _ _ => pe_meth (pv 1) T.cl_Ranking T.m_manyR GM hrM T.b_manyR .nil pass0 (pa_cons (pv 2) pa_nil)))))), ?_⟩
  have hst := step_ranks h
  obtain ⟨⟨dx, hp⟩, hla, hlr, nlr⟩ := id hS
  refine ⟨_, rfl, p, dx, _, rfl, hp, lkn2 (by decide +kernel) (by decide +kernel), (by decide : 0 ≤ sizeLine), fun z nz => ?_⟩
  have s1 : Same H (upd H z (.lst [])) := same_new nz
  refine ⟨p, la, lr, z, h, [], rfl, hS.same s1, hk, la_nil upd_same, (by show 0 ≤ 2; decide), fun c hc => (nomatch hc), fun hmu => ?_, fun hmu H3 r own s2 hR hB hin => ?_⟩
  · rw [hk.much] at hmu
    cases hmu
  have s3 := s1.trans s2
  obtain ⟨dr, mo, rl, hins, hM, hrk⟩ := id hR
  obtain ⟨as, has, hna, pas⟩ := id hrk
  refine ⟨_, rfl, r, T.c_Ranking, dr, _, _, rfl, hins, T.cl_Ranking, T.na_Ranking_ranks, (lkp (by decide +kernel)).trans lkh, rl, _, rfl, .inl (SqL.of has), small1, fun y ny => ?_⟩
  rw [List.length_map, ← paired_lenG pas]
  have s4 : Same H3 (upd H3 y (.lst [.int ((Oc07.book h.axioms h.rules).2.length : Nat)])) := same_new ny
  have hy4 : upd H3 y (.lst [.int ((Oc07.book h.axioms h.rules).2.length : Nat)]) y = some (.lst [.int ((Oc07.book h.axioms h.rules).2.length : Nat)]) := upd_same
  have s5 := s3.trans s4
  generalize upd H3 y (.lst [.int ((Oc07.book h.axioms h.rules).2.length : Nat)]) = H4 at s4 hy4 s5
  have hr4 := hk.ru
  have hlr4 := hlr.same stP s5
  obtain ⟨rv, hrv, _⟩ := id hlr4
  refine ⟨_, rfl, p, T.c_Service, dx, _, _, rfl, s5 _ _ hp, T.cl_Service, T.na_Service_rules, (lkp (by decide +kernel)).trans lkh, lr, rfl, ⟨rv, SqL.of hrv⟩, fun D nD => ?_⟩
  refine lc_data (K := K) stP hlr4 stN (fun _ => true) (fun x => ExM.manyRanks (Oc07.book h.axioms h.rules).2 x) nD (by omega) (fun x v H' hx s6 hv Yes No hy _ => ?_) fun H6 s6 hD => ?_
  · have s7 := s4.trans s6
    refine ⟨rfl, ?_⟩
    refine ⟨_, rfl, r, dr, _, rfl, s7 _ _ hins, lkn2 (by decide +kernel) (by decide +kernel), _, rfl, ?_⟩
    exact ⟨r, v, own, _, x, rfl, hR.same s7, hv, hB, hk.sr x hx, fun H8 s8 => hy rfl _ _ s8 rfl⟩
  · obtain ⟨us, hus, pus⟩ := hD
    have e := paired_nat pus
    have e5 : h.rules.filter (fun _ => true) = h.rules := List.filter_eq_self.mpr fun _ _ => rfl
    rw [e5] at e
    refine ⟨y, D, _, us, rfl, rfl, s6 _ _ hy4, hus, Nat.le_of_lt (line_big (by rw [e, List.length_map, List.length_map, List.length_singleton]; omega)), fun q nq => ?_⟩
    refine hq.stay hst hS hk ((s5.trans s6).trans (same_new nq)) upd_same ?_
    rw [e]
    unfold Oc07Neutral.out
    rw [List.map_cons, List.map_map, List.map_map, List.map_map]
    rfl
end
end Ex
/-! begins, line, rule, drop. -/
namespace Ex
open PySem PySem.Spec PyProof.Rows L2
open Oc (C)
open ExM (In)
/-! ### plain: the house goes on -/
theorem mem_bothL {l : List Rl} {x : C} : x ∈ (bothL l).flatMap C.atoms ↔ ∃ r ∈ l, x ∈ r.1.atoms ∨ x ∈ r.2.atoms := by
  unfold bothL
  constructor
  · intro h
    obtain ⟨c, hc, q⟩ := List.mem_flatMap.mp h
    obtain ⟨r, hr, k⟩ := List.mem_flatMap.mp hc
    rcases List.mem_cons.mp k with k | k
    · exact ⟨r, hr, .inl (k ▸ q)⟩
    · exact ⟨r, hr, .inr (List.mem_singleton.mp k ▸ q)⟩
  · rintro ⟨r, hr, q | q⟩
    · exact List.mem_flatMap.mpr ⟨r.1, List.mem_flatMap.mpr ⟨r, hr, List.mem_cons_self⟩, q⟩
    · exact List.mem_flatMap.mpr ⟨r.2, List.mem_flatMap.mpr ⟨r, hr, List.mem_cons_of_mem _ List.mem_cons_self⟩, q⟩
theorem le_more {h : Oc07.House} {a : Rl} {as : List C} (g : GatOk h [a.1, a.2] as) {l : List Rl} (hl : ∀ r ∈ l, r = a ∨ r ∈ h.axioms ++ h.rules) : (Oc.atomsOf (bothL l)).length ≤ 4 := by
  refine Nat.le_trans (ExM.nodup_sub_len (ExM.distinct_nodup _) fun c hc => ?_) g.le
  obtain ⟨r, hr, q⟩ := mem_bothL.mp ((ExM.atomsOf_mem _ c).mp hc)
  refine (g.mem c).mpr ?_
  rw [List.flatMap_append]
  rcases hl r hr with k | k
  · subst k
    refine List.mem_append_left _ ?_
    rcases q with q | q
    · exact List.mem_flatMap.mpr ⟨_, List.mem_cons_self, q⟩
    · exact List.mem_flatMap.mpr ⟨_, List.mem_cons_of_mem _ List.mem_cons_self, q⟩
  · exact List.mem_append_right _ (mem_bothL.mpr ⟨r, k, q⟩)
theorem le_less {h : Oc07.House} (k : HOK h) {l : List Rl} (hl : ∀ r ∈ l, r ∈ h.axioms ++ h.rules) : (Oc.atomsOf (bothL l)).length ≤ 4 := by
  refine Nat.le_trans (ExM.nodup_sub_len (ExM.distinct_nodup _) fun c hc => ?_) k.le
  obtain ⟨r, hr, q⟩ := mem_bothL.mp ((ExM.atomsOf_mem _ c).mp hc)
  exact (ExM.atomsOf_mem _ c).mpr (mem_bothL.mpr ⟨r, hl r hr, q⟩)
theorem HOK.init : HOK Oc07.init := ⟨Nat.zero_le _, Nat.zero_le _, fun _ h => (nomatch h), fun _ h => (nomatch h), by decide⟩
theorem HOK.line {h : Oc07.House} (k : HOK h) {a : Rl} {as : List C} (g : GatOk h [a.1, a.2] as) (hs : SmR a) (hn : ¬ h.axioms.length = 3) : HOK { h with axioms := h.axioms ++ [a] } := by
  refine ⟨?_, k.ru, fun r hr => ?_, k.sr, le_more g fun r hr => ?_⟩
  · have := k.ax
    show (h.axioms ++ [a]).length ≤ 3
    rw [List.length_append, List.length_singleton]
    omega
  · rcases List.mem_append.mp hr with q | q
    · exact k.sa r q
    · exact List.mem_singleton.mp q ▸ hs
  · rcases List.mem_append.mp hr with q | q
    · rcases List.mem_append.mp q with q | q
      · exact .inr (List.mem_append_left _ q)
      · exact .inl (List.mem_singleton.mp q)
    · exact .inr (List.mem_append_right _ q)
theorem HOK.rule {h : Oc07.House} (k : HOK h) {a : Rl} {as : List C} (g : GatOk h [a.1, a.2] as) (hs : SmR a) (hn : ¬ h.rules.length = 4) : HOK { h with rules := h.rules ++ [a] } := by
  refine ⟨k.ax, ?_, k.sa, fun r hr => ?_, le_more g fun r hr => ?_⟩
  · have := k.ru
    show (h.rules ++ [a]).length ≤ 4
    rw [List.length_append, List.length_singleton]
    omega
  · rcases List.mem_append.mp hr with q | q
    · exact k.sr r q
    · exact List.mem_singleton.mp q ▸ hs
  · rcases List.mem_append.mp hr with q | q
    · exact .inr (List.mem_append_left _ q)
    · rcases List.mem_append.mp q with q | q
      · exact .inr (List.mem_append_right _ q)
      · exact .inl (List.mem_singleton.mp q)
theorem mem_cut {l : List Rl} {i : Nat} {r : Rl} (h : r ∈ l.take i ++ l.drop (i + 1)) : r ∈ l := (List.mem_append.mp h).elim (fun q => List.mem_of_mem_take q) (fun q => List.mem_of_mem_drop q)
theorem HOK.drop {h : Oc07.House} (k : HOK h) (i : Nat) : HOK { h with rules := h.rules.take i ++ h.rules.drop (i + 1) } := by
  refine ⟨k.ax, ?_, k.sa, fun r hr => k.sr r (mem_cut hr), le_less k fun r hr => ?_⟩
  · have := k.ru
    show (h.rules.take i ++ h.rules.drop (i + 1)).length ≤ 4
    rw [List.length_append, List.length_take, List.length_drop]
    omega
  · rcases List.mem_append.mp hr with q | q
    · exact List.mem_append_left _ q
    · exact List.mem_append_right _ (mem_cut q)
theorem cut_upto {xs : List V} {i : Nat} (h : i ≤ xs.length) : cutV xs none (some (i : Int)) = xs.take i := by
  unfold cutV
  rw [HT.sIx_none, HT.sIx_nat, List.drop_zero, Nat.sub_zero, Nat.min_eq_left h]
theorem cut_from {xs : List V} {i : Nat} (h : i ≤ xs.length) : cutV xs (some (i : Int)) none = xs.drop i := by
  unfold cutV
  rw [HT.sIx_none, HT.sIx_nat, Nat.min_eq_left h]
  exact List.take_of_length_le (by rw [List.length_drop]; exact Nat.le_refl _)
theorem SvA.ne {K : PySem.W.Frag} {cS : Addr} {H : Hp} {h : Oc07.House} {s la lr : Addr} (q : SvA K cS H h s la lr) : la ≠ s ∧ lr ≠ s := by
  obtain ⟨⟨dx, hp⟩, ⟨av, ha, _⟩, ⟨rv, hr, _⟩, _⟩ := q
  exact ⟨ne_of ha hp (by intro z; cases z), ne_of hr hp (by intro z; cases z)⟩
section
variable {P : Program} {w : World} {K : PySem.W.Frag} {mg : Str → Option Value} {base : Heap}
theorem ok_begins (T : Txt K mg) : FnOk P w K mg base (L2.CX P w) 1 T.a_begins T.d_begins ["self"] (spOp0 K T.c_Service T.c_Ref .begins) := by
  refine T.f_begins.okX sc_begins (fun vs H Q E h => ?_) (fun cdv A outer s H vs Q E hr h => ?_)
  · obtain ⟨s, la, lr, h, rfl, _⟩ := h
    rfl
  obtain ⟨p, la, lr, h, rfl, hA⟩ := h
  obtain ⟨hS, hk, hq, he⟩ := hA
  refine ⟨_, pss_cons (ps_fld (pv 0) (pe_lst pa_nil) rfl) (pss_cons (ps_fld (pv 0) (pe_lst pa_nil) rfl) (pss_one (ps_ret (pe_lst (pa_cons pe_int pa_nil))))), ?_⟩
  obtain ⟨⟨dx, hp⟩, hla, hlr, nlr⟩ := id hS
  refine ⟨(by decide : 0 ≤ sizeLine), fun na nna => ?_⟩
  have s1 : Same H (upd H na (.lst [])) := same_new nna
  have hp1 := s1 _ _ hp
  refine ⟨_, rfl, p, T.c_Service, dx, _, rfl, hp1, T.cl_Service, T.na_Service_axioms, (by show 2 < 1000; decide), ?_⟩
  have hl1 : LA (PA' K) (upd (upd H na (.lst [])) p (.ins T.c_Service dx (putF "axioms" (.ref na) [("axioms", .ref la), ("rules", .ref lr)]))) na [] := (la_nil (R := PA' K) upd_same).ui hp1 stP
  have hp2 : upd (upd H na (.lst [])) p (.ins T.c_Service dx (putF "axioms" (.ref na) [("axioms", .ref la), ("rules", .ref lr)])) p = some (.ins T.c_Service dx [("axioms", .ref na), ("rules", .ref lr)]) := by rw [upd_same, puth]
  have kb2 : KB H (upd (upd H na (.lst [])) p (.ins T.c_Service dx (putF "axioms" (.ref na) [("axioms", .ref la), ("rules", .ref lr)]))) p := (KB.of s1).trans KB.up
  generalize upd (upd H na (.lst [])) p (.ins T.c_Service dx (putF "axioms" (.ref na) [("axioms", .ref la), ("rules", .ref lr)])) = H2 at hl1 hp2 kb2
  refine ⟨(by decide : 0 ≤ sizeLine), fun nr nnr => ?_⟩
  have s3 : Same H2 (upd H2 nr (.lst [])) := same_new nnr
  have hp3 := s3 _ _ hp2
  refine ⟨_, rfl, p, T.c_Service, dx, _, rfl, hp3, T.cl_Service, T.na_Service_rules, (by show 2 < 1000; decide), ?_⟩
  have nnr0 : H nr = none := by
    cases e : H nr with
    | none => rfl
    | some ob =>
      by_cases z : nr = p
      · rw [z, hp2] at nnr; cases nnr
      · rw [kb2 nr ob e z] at nnr; cases nnr
  have nar : na ≠ nr := fun e => by
    obtain ⟨vs, hv, _⟩ := hl1
    rw [e, nnr] at hv
    cases hv
  have e2 : putF ("rules" : Str) (V.ref nr) [(("axioms" : Str), V.ref na), (("rules" : Str), V.ref lr)] = ([(("axioms" : Str), V.ref na), (("rules" : Str), V.ref nr)] : List (Str × V)) := (putp (by decide +kernel)).trans (congrArg _ puth)
  have hla4 := (hl1.same stP s3).ui (fs' := putF ("rules" : Str) (V.ref nr) [(("axioms" : Str), V.ref na), (("rules" : Str), V.ref lr)]) hp3 stP
  have hlr4 := (la_nil (R := PA' K) (H := upd H2 nr (.lst [])) upd_same).ui (fs' := putF ("rules" : Str) (V.ref nr) [(("axioms" : Str), V.ref na), (("rules" : Str), V.ref lr)]) hp3 stP
  have hp4 : upd (upd H2 nr (.lst [])) p (.ins T.c_Service dx (putF ("rules" : Str) (V.ref nr) [(("axioms" : Str), V.ref na), (("rules" : Str), V.ref lr)])) p = some (.ins T.c_Service dx [("axioms", .ref na), ("rules", .ref nr)]) := by rw [upd_same, e2]
  have kb4 := (kb2.trans (KB.of s3)).trans (KB.up (H := upd H2 nr (.lst [])) (p := p) (o := .ins T.c_Service dx (putF ("rules" : Str) (V.ref nr) [(("axioms" : Str), V.ref na), (("rules" : Str), V.ref lr)])))
  generalize upd (upd H2 nr (.lst [])) p (.ins T.c_Service dx (putF ("rules" : Str) (V.ref nr) [(("axioms" : Str), V.ref na), (("rules" : Str), V.ref lr)])) = H4 at hla4 hlr4 hp4 kb4
  refine ⟨small1, fun y ny => ?_⟩
  have s5 : Same H4 (upd H4 y (.lst [.int 0])) := same_new ny
  refine hq _ y na nr ⟨⟨dx, s5 _ _ hp4⟩, hla4.same stP s5, hlr4.same stP s5, nar⟩ HOK.init ⟨fun b ob e n1 _ _ => s5 _ _ (kb4 b ob e n1), .inr nna, .inr nnr0⟩ ?_
  rw [upd_same]
  rfl
def spDrop (K : PySem.W.Frag) (cS cE : Addr) : Sp := fun vs H Q E => ∃ (s la lr : Addr) (h : Oc07.House) (i : Nat), vs = [.ref s, .int i] ∧ Ahead K cS cE H Q E s la lr h (Oc07.step h (.drop i))
theorem step_drop (h : Oc07.House) (i : Nat) : Oc07.step h (.drop i) = if h.rules.length ≤ i then (h, Oc07.ok (-2)) else ({ h with rules := h.rules.take i ++ h.rules.drop (i + 1) }, Oc07.ok (h.rules.length - 1 : Nat)) := rfl
theorem ok_drop (T : Txt K mg) : FnOk P w K mg base (L2.CX P w) 3 T.a_drop T.d_drop ["self", "index"] (spDrop K T.c_Service T.c_Ref) := by
  have GR := ok_reI (P := P) (w := w) (base := base) T
  refine T.f_drop.okX sc_drop (fun vs H Q E h => ?_) (fun cdv A outer s H vs Q E hr h => ?_)
  · obtain ⟨s, la, lr, h, i, rfl, _⟩ := h
    rfl
  obtain ⟨p, la, lr, h, i, rfl, hA⟩ := h
  obtain ⟨hS, hk, hq, he⟩ := hA
  have tk := L2.takes_of (X := cxOf (L2.CX P w) P w K mg base ["self", "index"] "Service.drop" (defScope s_drop) T.a_drop cdv A outer s H E) rfl rfl rfl rfl
  refine ⟨_, pss_cons (ps_if (pt_cmpR op_ge (pv 1) (pe_callB call_len_seq rfl T.z_len PySem.boot_len (pa_cons (pe_fld (pv 0) rfl) pa_nil)) (nomark _))
      (pss_one (ps_raise rfl tk (pmk_oex T.xR T.iR T.yR GR hr T.b_reI .nil pass0 rfl T.gR (pa_cons (gI T.k_NO_RULE) pa_nil)))) pss_nil)
    (pss_cons (ps_fld (pv 0) (pe_op op_cat (pe_slice sl_list (pe_fld (pv 0) rfl) po_none (po_some (pv 1))) (pe_slice sl_list (pe_fld (pv 0) rfl) (po_some (pe_op op_add (pv 1) pe_int)) po_none)) rfl)
    (pss_one (ps_ret (pe_lst (pa_cons (pe_callB call_len_seq rfl T.z_len PySem.boot_len (pa_cons (pe_fld (pv 0) rfl) pa_nil)) pa_nil))))), ?_⟩
  obtain ⟨⟨dx, hp⟩, hla, hlr, nlr⟩ := id hS
  obtain ⟨rv, hrv, prv⟩ := id hlr
  have l1 := paired_len prv
  have hr4 := hk.ru
  have hst := step_drop h i
  refine ⟨_, rfl, _, rfl, p, T.c_Service, dx, _, _, rfl, hp, T.cl_Service, T.na_Service_rules, (lkp (by decide +kernel)).trans lkh, lr, rv, rfl, .inl (SqL.of hrv), _, _, rfl, rfl, _, rfl, ?_⟩
  by_cases hi : h.rules.length ≤ i
  · rw [if_pos hi] at hst
    have hd : decide (((rv.length : Nat) : Int) ≤ ((i : Nat) : Int)) = true := decide_eq_true (by omega)
    rw [hd]
    exact iteT (out_ref (he (-2) hst))
  rw [if_neg hi] at hst
  have hd : decide (((rv.length : Nat) : Int) ≤ ((i : Nat) : Int)) = false := decide_eq_false (by omega)
  rw [hd]
  refine iteF ?_
  refine ⟨_, rfl, p, T.c_Service, dx, _, _, rfl, hp, T.cl_Service, T.na_Service_rules, (lkp (by decide +kernel)).trans lkh, _, rfl, _, rfl, lr, rv, rfl, SqL.of hrv, fun y ny => ?_⟩
  rw [cut_upto (by omega : i ≤ rv.length)]
  have s1 : Same H (upd H y (.lst (rv.take i))) := same_new ny
  have hy1 : upd H y (.lst (rv.take i)) y = some (.lst (rv.take i)) := upd_same
  generalize upd H y (.lst (rv.take i)) = H1 at s1 hy1
  refine ⟨_, rfl, p, T.c_Service, dx, _, _, rfl, s1 _ _ hp, T.cl_Service, T.na_Service_rules, (lkp (by decide +kernel)).trans lkh, _, rfl, _, _, rfl, rfl, _, rfl, lr, rv, rfl, SqL.of (s1 _ _ hrv), fun z nz => ?_⟩
  have ei : ((i : Nat) : Int) + 1 = ((i + 1 : Nat) : Int) := by omega
  rw [ei, cut_from (by omega : i + 1 ≤ rv.length)]
  have s2 : Same H1 (upd H1 z (.lst (rv.drop (i + 1)))) := same_new nz
  have hz2 : upd H1 z (.lst (rv.drop (i + 1))) z = some (.lst (rv.drop (i + 1))) := upd_same
  have hy2 := s2 _ _ hy1
  have s3 := s1.trans s2
  generalize upd H1 z (.lst (rv.drop (i + 1))) = H2 at s2 hz2 hy2 s3
  have l2 : (rv.take i).length + (rv.drop (i + 1)).length = h.rules.length - 1 := by rw [List.length_take, List.length_drop]; omega
  refine ⟨y, z, _, _, rfl, rfl, hy2, hz2, Nat.le_of_lt (line_big (by omega)), fun nr nnr => ?_⟩
  have s4 : Same H2 (upd H2 nr (.lst (rv.take i ++ rv.drop (i + 1)))) := same_new nnr
  have s5 := s3.trans s4
  have hnr : LA (PA' K) (upd H2 nr (.lst (rv.take i ++ rv.drop (i + 1)))) nr (h.rules.take i ++ h.rules.drop (i + 1)) := ⟨_, upd_same, paired_imp (fun _ _ q => q.ts s5.ts) (paired_app (paired_take i prv) (paired_drop (i + 1) prv))⟩
  have nnr0 : H nr = none := s3.free nnr
  have hp5 := s5 _ _ hp
  have hla5 := hla.same stP s5
  generalize upd H2 nr (.lst (rv.take i ++ rv.drop (i + 1))) = H5 at s4 s5 hnr hp5 hla5
  refine ⟨_, rfl, p, T.c_Service, dx, _, rfl, hp5, T.cl_Service, T.na_Service_rules, (by show 2 < 1000; decide), ?_⟩
  have e2 : putF ("rules" : Str) (V.ref nr) [(("axioms" : Str), V.ref la), (("rules" : Str), V.ref lr)] = ([(("axioms" : Str), V.ref la), (("rules" : Str), V.ref nr)] : List (Str × V)) := (putp (by decide +kernel)).trans (congrArg _ puth)
  rw [e2]
  have hla6 := hla5.ui (fs' := [(("axioms" : Str), V.ref la), (("rules" : Str), V.ref nr)]) hp5 stP
  have hnr6 := hnr.ui (fs' := [(("axioms" : Str), V.ref la), (("rules" : Str), V.ref nr)]) hp5 stP
  have hp6 : upd H5 p (.ins T.c_Service dx [("axioms", .ref la), ("rules", .ref nr)]) p = some (.ins T.c_Service dx [("axioms", .ref la), ("rules", .ref nr)]) := upd_same
  have kb6 := (KB.of (p := p) s5).trans (KB.up (H := H5) (p := p) (o := .ins T.c_Service dx [("axioms", .ref la), ("rules", .ref nr)]))
  generalize upd H5 p (.ins T.c_Service dx [("axioms", .ref la), ("rules", .ref nr)]) = H6 at hla6 hnr6 hp6 kb6
  obtain ⟨nv, hnv, pnv⟩ := id hnr6
  refine ⟨_, rfl, p, T.c_Service, dx, _, _, rfl, hp6, T.cl_Service, T.na_Service_rules, (lkp (by decide +kernel)).trans lkh, nr, nv, rfl, .inl (SqL.of hnv), small1, fun u nu => ?_⟩
  have s7 : Same H6 (upd H6 u (.lst [.int nv.length])) := same_new nu
  have nar : la ≠ nr := fun e => by
    obtain ⟨av, ha, _⟩ := hla
    rw [e, nnr0] at ha
    cases ha
  have hq' := hq
  rw [hst] at hq'
  refine hq' _ u la nr ⟨⟨dx, s7 _ _ hp6⟩, hla6.same stP s7, hnr6.same stP s7, nar⟩ (hk.drop i) ⟨fun b ob e n1 _ _ => s7 _ _ (kb6 b ob e n1), .inl rfl, .inr nnr0⟩ ?_
  rw [upd_same, out_ok]
  have e3 : nv.length = h.rules.length - 1 := by rw [← paired_len pnv, List.length_append, List.length_take, List.length_drop]; omega
  rw [e3]
end
end Ex
/-! line, rule. -/
namespace Ex
open PySem PySem.Spec PyProof.Rows L2
open Oc (C)
open ExM (In)
section
variable {P : Program} {w : World} {K : PySem.W.Frag} {mg : Str → Option Value} {base : Heap}
theorem step_line (h : Oc07.House) (l : List Nat) : Oc07.step h (.line l) = match Oc.two l with
  | none => (h, Oc07.ok (-1))
  | some a => if h.axioms.length = 3 ∨ Oc07.much h [a.1, a.2] = true then (h, Oc07.ok (-7)) else ({ h with axioms := h.axioms ++ [a] }, Oc07.ok (h.axioms.length : Nat)) := rfl
theorem step_rule (h : Oc07.House) (l : List Nat) : Oc07.step h (.rule l) = match Oc.two l with
  | none => (h, Oc07.ok (-1))
  | some a => if h.rules.length = 4 ∨ Oc07.much h [a.1, a.2] = true then (h, Oc07.ok (-7)) else if h.rules.contains a = true then (h, Oc07.ok (-4)) else ({ h with rules := h.rules ++ [a] }, Oc07.ok (h.rules.length : Nat)) := rfl
theorem ok_line (T : Txt K mg) : FnOk P w K mg base (L2.CX P w) 41 T.a_line T.d_line ["self", "numbers"] (spOp K T.c_Service T.c_Ref .line) := by
  have GT := ok_toldC (P := P) (w := w) (base := base) T
  have GW := ok_atWith (P := P) (w := w) (base := base) T
  have GR := ok_reI (P := P) (w := w) (base := base) T
  refine T.f_line.okX sc_line (fun vs H Q E h => ?_) (fun cdv A outer s H vs Q E hr h => ?_)
  · obtain ⟨s, la, lr, a, h, ns, rfl, _⟩ := h
    rfl
  obtain ⟨p, la, lr, a, h, ns, rfl, hN, hpos, h30, hA⟩ := h
  obtain ⟨hS, hk, hq, he⟩ := hA
  have tk := L2.takes_of (X := cxOf (L2.CX P w) P w K mg base ["self", "numbers", "one", "other"] "Service.line" (defScope s_line) T.a_line cdv A outer s H E) rfl rfl rfl rfl
  have hrT : Room 36 _ := hr.mono (by decide)
  have hrW : Room 3 _ := hr.mono (by decide)
  have hrR : Room 2 _ := hr.mono (by decide)
  refine ⟨_, pss_cons (ps_asg (pe_callS GT hrT rfl T.g_toldC T.f_toldC.kp T.b_toldC (fun σ => passAt tk σ) (by exact (pa_cons (pv 1) (pa_cons pe_int pa_nil))))
      (pg_lst rfl (pgs_cons (pg_name (i := 2) sc_line.nd rfl (Or.inl rfl)) (pgs_cons (pg_name (i := 3) sc_line.nd rfl (Or.inl rfl)) pgs_nil))))
    (pss_cons (ps_if (pt_cmpR op_eq (pe_callB call_len_seq rfl T.z_len PySem.boot_len (pa_cons (pe_fld (pv 0) rfl) pa_nil)) (gI T.k_MOST_AXIOMS) (nomark _))
      (pss_one (ps_raise rfl tk (pmk_oex T.xR T.iR T.yR GR hrR T.b_reI .nil pass0 rfl T.gR (pa_cons (gI T.k_TOO_MANY) pa_nil)))) pss_nil)
    (pss_cons (ps_expr (pe_methA (pv 0) T.cl_Service T.m_atWith GW hrW T.b_atWith (fun σ => passAt tk σ) (by exact (pa_cons (pe_lst (pa_cons (pv 2) (pa_cons (pv 3) pa_nil))) pa_nil))))
    (pss_cons (ps_expr (pe_bm PySem.F.plainAttrs_list PySem.F.slot_list_append PySem.F.type_list_append mt_append (pe_fld (pv 0) rfl) (pa_cons (pe_tup (pa_cons (pv 2) (pa_cons (pv 3) pa_nil))) pa_nil)))
    (pss_one (ps_ret (pe_lst (pa_cons (pe_op op_sub (pe_callB call_len_seq rfl T.z_len PySem.boot_len (pa_cons (pe_fld (pv 0) rfl) pa_nil)) pe_int) pa_nil))))))), ?_⟩
  have hlen : (nats ns).length ≤ 30 := by rw [nats_len]; exact h30
  have hst := step_line h (nats ns)
  refine ⟨_, rfl, a, ns, 2, rfl, hN, hpos, h30, Nat.le_refl _, fun hx => ?_, fun cs hx H1 l s1 nl hl => ?_⟩
  · have e : Oc.two (nats ns) = none := by
      cases e : Oc.two (nats ns) with
      | none => rfl
      | some b => exact absurd (rd_two.mp e) (hx _)
    rw [e] at hst
    exact he (-1) hst
  · obtain ⟨q1, _⟩ := rdMany_sz 2 _ cs [] hx
    match cs, q1 with
    | [c, d], _ =>
      have hsm := two_sm hlen hx
      have e : Oc.two (nats ns) = some (c, d) := rd_two.mpr hx
      rw [e] at hst
      replace hst : Oc07.step h (.line (nats ns)) = if h.axioms.length = 3 ∨ Oc07.much h [c, d] = true then (h, Oc07.ok (-7)) else ({ h with axioms := h.axioms ++ [(c, d)] }, Oc07.ok (h.axioms.length : Nat)) := hst
      obtain ⟨vs, hvs, pvs⟩ := hl
      cases pvs with
      | cons hc pvs =>
      cases pvs with
      | cons hd pvs =>
      cases pvs
      rename_i cv dv
      refine ⟨l, [cv, dv], rfl, SqL.of hvs, rfl, cv, _, rfl, dv, _, rfl, rfl, ?_⟩
      have hS1 := hS.same s1
      obtain ⟨⟨dx, hp⟩, hla, hlr, nlr⟩ := id hS1
      obtain ⟨npa, npr⟩ := hS1.ne
      obtain ⟨mv, hmv, pmv⟩ := id hla
      have l1 := paired_len pmv
      have hx3 := hk.ax
      refine ⟨_, rfl, p, T.c_Service, dx, _, _, rfl, hp, T.cl_Service, T.na_Service_axioms, lkh, la, mv, rfl, .inl (SqL.of hmv), rfl, _, rfl, ?_⟩
      by_cases hn : h.axioms.length = 3
      · rw [if_pos (Or.inl hn)] at hst
        refine ite_eq (by rw [← l1, hn]; rfl) (out_ref (RefE.of s1 (he (-7) hst)))
      refine ite_en (fun z => hn (by have := V.int.inj z; omega)) ?_
      refine ⟨_, rfl, p, dx, _, rfl, hp, lkn2 (by decide +kernel) (by decide +kernel), _, rfl, _, rfl, small2, fun z nz => ?_⟩
      have s2 : Same H1 (upd H1 z (.lst [cv, dv])) := same_new nz
      have s3 := s1.trans s2
      refine ⟨p, la, lr, z, h, [c, d], rfl, hS1.same s2, hk, ⟨[cv, dv], upd_same, .cons (hc.ts s2.ts) (.cons (hd.ts s2.ts) .nil)⟩, Nat.le_refl _, hsm, fun hmu => ?_, fun hmu H3 l2 as s4 nl2 hl2 g => ?_⟩
      · rw [if_pos (Or.inr hmu)] at hst
        exact RefE.of s3 (he (-7) hst)
      rw [if_neg (fun z => z.elim hn fun z => by rw [hmu] at z; cases z)] at hst
      have s5 := s2.trans s4
      have hsR : SmR (c, d) := ⟨hsm c List.mem_cons_self, hsm d (List.mem_cons_of_mem _ List.mem_cons_self)⟩
      refine ⟨_, rfl, p, T.c_Service, dx, _, _, rfl, s5 _ _ hp, T.cl_Service, T.na_Service_axioms, lkh, .inl ⟨rfl, _, SqL.of (s5 _ _ hmv)⟩, _, rfl, _, rfl, small2, fun t nt => ?_⟩
      have s6 : Same H3 (upd H3 t (.tup [cv, dv])) := same_new nt
      have s7 := s5.trans s6
      have hmv7 := s7 _ _ hmv
      refine ⟨la, mv, .ref t, rfl, rfl, hmv7, line_big (by omega), ?_⟩
      have ht8 : TS (upd H3 t (.tup [cv, dv])) (upd (upd H3 t (.tup [cv, dv])) la (.lst (mv ++ [.ref t]))) := TS.lst hmv7
      have ht9 := s7.ts.trans ht8
      have htt : SqT K (upd (upd H3 t (.tup [cv, dv])) la (.lst (mv ++ [.ref t]))) t [cv, dv] := sqT_ts ht8 (SqT.of upd_same)
      have hM9 : LA (PA' K) (upd (upd H3 t (.tup [cv, dv])) la (.lst (mv ++ [.ref t]))) la (h.axioms ++ [(c, d)]) := ⟨mv ++ [.ref t], upd_same, paired_app (paired_imp (fun _ _ q => q.ts ht9) pmv) (.cons ⟨t, cv, dv, rfl, htt, hc.ts ht9, hd.ts ht9⟩ .nil)⟩
      have hO9 : LA (PA' K) (upd (upd H3 t (.tup [cv, dv])) la (.lst (mv ++ [.ref t]))) lr h.rules := hlr.at stP ht9 (by rw [upd_ne (Ne.symm nlr)]; obtain ⟨ov, ho, _⟩ := hlr; rw [ho]; exact s7 _ _ ho)
      have hp9 : upd (upd H3 t (.tup [cv, dv])) la (.lst (mv ++ [.ref t])) p = some (.ins T.c_Service dx [("axioms", .ref la), ("rules", .ref lr)]) := by rw [upd_ne (Ne.symm npa)]; exact s7 _ _ hp
      have k9 : ∀ b ob, H b = some ob → b ≠ la → upd (upd H3 t (.tup [cv, dv])) la (.lst (mv ++ [.ref t])) b = some ob := fun b ob e n => by rw [upd_ne n]; exact s7 _ _ (s1 _ _ e)
      have hm9 : upd (upd H3 t (.tup [cv, dv])) la (.lst (mv ++ [.ref t])) la = some (.lst (mv ++ [.ref t])) := upd_same
      generalize upd (upd H3 t (.tup [cv, dv])) la (.lst (mv ++ [.ref t])) = H9 at ht8 ht9 htt hM9 hO9 hp9 k9 hm9
      refine ⟨_, rfl, p, T.c_Service, dx, _, _, rfl, hp9, T.cl_Service, T.na_Service_axioms, lkh, la, _, rfl, .inl (SqL.of hm9), _, _, rfl, rfl, small1, fun y ny => ?_⟩
      have s10 : Same H9 (upd H9 y (.lst [.int (((mv ++ [V.ref t]).length : Nat) - 1)])) := same_new ny
      have hq' := hq
      rw [hst] at hq'
      refine hq' _ y la lr ⟨⟨dx, s10 _ _ hp9⟩, hM9.same stP s10, hO9.same stP s10, nlr⟩ (hk.line g hsR hn) ⟨fun b ob e _ n2 n3 => s10 _ _ (k9 b ob e n2), .inl rfl, .inl rfl⟩ ?_
      rw [upd_same, out_ok, List.length_append, List.length_singleton, ← l1]
      exact congrArg (fun z : Int => some (HO.lst [V.int z])) (by omega)
theorem ok_rule (T : Txt K mg) : FnOk P w K mg base (L2.CX P w) 41 T.a_rule T.d_rule ["self", "numbers"] (spOp K T.c_Service T.c_Ref .rule) := by
  have GT := ok_toldC (P := P) (w := w) (base := base) T
  have GW := ok_atWith (P := P) (w := w) (base := base) T
  have GR := ok_reI (P := P) (w := w) (base := base) T
  refine T.f_rule.okX sc_rule (fun vs H Q E h => ?_) (fun cdv A outer s H vs Q E hr h => ?_)
  · obtain ⟨s, la, lr, a, h, ns, rfl, _⟩ := h
    rfl
  obtain ⟨p, la, lr, a, h, ns, rfl, hN, hpos, h30, hA⟩ := h
  obtain ⟨hS, hk, hq, he⟩ := hA
  have tk := L2.takes_of (X := cxOf (L2.CX P w) P w K mg base ["self", "numbers", "one", "other"] "Service.rule" (defScope s_rule) T.a_rule cdv A outer s H E) rfl rfl rfl rfl
  have hrT : Room 36 _ := hr.mono (by decide)
  have hrW : Room 3 _ := hr.mono (by decide)
  have hrR : Room 2 _ := hr.mono (by decide)
  refine ⟨_, pss_cons (ps_asg (pe_callS GT hrT rfl T.g_toldC T.f_toldC.kp T.b_toldC (fun σ => passAt tk σ) (by exact (pa_cons (pv 1) (pa_cons pe_int pa_nil))))
      (pg_lst rfl (pgs_cons (pg_name (i := 2) sc_rule.nd rfl (Or.inl rfl)) (pgs_cons (pg_name (i := 3) sc_rule.nd rfl (Or.inl rfl)) pgs_nil))))
    (pss_cons (ps_if (pt_cmpR op_eq (pe_callB call_len_seq rfl T.z_len PySem.boot_len (pa_cons (pe_fld (pv 0) rfl) pa_nil)) (gI T.k_MOST_RULES) (nomark _))
      (pss_one (ps_raise rfl tk (pmk_oex T.xR T.iR T.yR GR hrR T.b_reI .nil pass0 rfl T.gR (pa_cons (gI T.k_TOO_MANY) pa_nil)))) pss_nil)
    (pss_cons (ps_expr (pe_methA (pv 0) T.cl_Service T.m_atWith GW hrW T.b_atWith (fun σ => passAt tk σ) (by exact (pa_cons (pe_lst (pa_cons (pv 2) (pa_cons (pv 3) pa_nil))) pa_nil))))
    (pss_cons (ps_if (pt_cmpR (op_inD (hu65 hr)) (pe_tup (pa_cons (pv 2) (pa_cons (pv 3) pa_nil))) (pe_fld (pv 0) rfl) rfl)
      (pss_one (ps_raise rfl tk (pmk_oex T.xR T.iR T.yR GR hrR T.b_reI .nil pass0 rfl T.gR (pa_cons (gI T.k_EQUAL_RULE) pa_nil)))) pss_nil)
    (pss_cons (ps_expr (pe_bm PySem.F.plainAttrs_list PySem.F.slot_list_append PySem.F.type_list_append mt_append (pe_fld (pv 0) rfl) (pa_cons (pe_tup (pa_cons (pv 2) (pa_cons (pv 3) pa_nil))) pa_nil)))
    (pss_one (ps_ret (pe_lst (pa_cons (pe_op op_sub (pe_callB call_len_seq rfl T.z_len PySem.boot_len (pa_cons (pe_fld (pv 0) rfl) pa_nil)) pe_int) pa_nil)))))))), ?_⟩
  have hlen : (nats ns).length ≤ 30 := by rw [nats_len]; exact h30
  have hst := step_rule h (nats ns)
  refine ⟨_, rfl, a, ns, 2, rfl, hN, hpos, h30, Nat.le_refl _, fun hx => ?_, fun cs hx H1 l s1 nl hl => ?_⟩
  · have e : Oc.two (nats ns) = none := by
      cases e : Oc.two (nats ns) with
      | none => rfl
      | some b => exact absurd (rd_two.mp e) (hx _)
    rw [e] at hst
    exact he (-1) hst
  · obtain ⟨q1, _⟩ := rdMany_sz 2 _ cs [] hx
    match cs, q1 with
    | [c, d], _ =>
      have hsm := two_sm hlen hx
      have e : Oc.two (nats ns) = some (c, d) := rd_two.mpr hx
      rw [e] at hst
      replace hst : Oc07.step h (.rule (nats ns)) = if h.rules.length = 4 ∨ Oc07.much h [c, d] = true then (h, Oc07.ok (-7)) else if h.rules.contains (c, d) = true then (h, Oc07.ok (-4)) else ({ h with rules := h.rules ++ [(c, d)] }, Oc07.ok (h.rules.length : Nat)) := hst
      obtain ⟨vs, hvs, pvs⟩ := hl
      cases pvs with
      | cons hc pvs =>
      cases pvs with
      | cons hd pvs =>
      cases pvs
      rename_i cv dv
      refine ⟨l, [cv, dv], rfl, SqL.of hvs, rfl, cv, _, rfl, dv, _, rfl, rfl, ?_⟩
      have hS1 := hS.same s1
      obtain ⟨⟨dx, hp⟩, hla, hlr, nlr⟩ := id hS1
      obtain ⟨npa, npr⟩ := hS1.ne
      obtain ⟨mv, hmv, pmv⟩ := id hlr
      have l1 := paired_len pmv
      have hx3 := hk.ru
      refine ⟨_, rfl, p, T.c_Service, dx, _, _, rfl, hp, T.cl_Service, T.na_Service_rules, (lkp (by decide +kernel)).trans lkh, lr, mv, rfl, .inl (SqL.of hmv), rfl, _, rfl, ?_⟩
      by_cases hn : h.rules.length = 4
      · rw [if_pos (Or.inl hn)] at hst
        refine ite_eq (by rw [← l1, hn]; rfl) (out_ref (RefE.of s1 (he (-7) hst)))
      refine ite_en (fun z => hn (by have := V.int.inj z; omega)) ?_
      refine ⟨_, rfl, p, dx, _, rfl, hp, lkn2 (by decide +kernel) (by decide +kernel), _, rfl, _, rfl, small2, fun z nz => ?_⟩
      have s2 : Same H1 (upd H1 z (.lst [cv, dv])) := same_new nz
      have s3 := s1.trans s2
      refine ⟨p, la, lr, z, h, [c, d], rfl, hS1.same s2, hk, ⟨[cv, dv], upd_same, .cons (hc.ts s2.ts) (.cons (hd.ts s2.ts) .nil)⟩, Nat.le_refl _, hsm, fun hmu => ?_, fun hmu H3 l2 as s4 nl2 hl2 g => ?_⟩
      · rw [if_pos (Or.inr hmu)] at hst
        exact RefE.of s3 (he (-7) hst)
      rw [if_neg (fun z => z.elim hn fun z => by rw [hmu] at z; cases z)] at hst
      have s5 := s2.trans s4
      have hsR : SmR (c, d) := ⟨hsm c List.mem_cons_self, hsm d (List.mem_cons_of_mem _ List.mem_cons_self)⟩
      refine ⟨_, rfl, _, rfl, small2, fun t0 nt0 => ?_⟩
      have s40 : Same H3 (upd H3 t0 (.tup [cv, dv])) := same_new nt0
      have s50 := s5.trans s40
      have ha0 : PA' K (upd H3 t0 (.tup [cv, dv])) (c, d) (.ref t0) := ⟨t0, cv, dv, rfl, SqT.of upd_same, hc.ts s50.ts, hd.ts s50.ts⟩
      generalize upd H3 t0 (.tup [cv, dv]) = H5 at s40 s50 ha0
      refine ⟨_, rfl, p, T.c_Service, dx, _, _, rfl, s50 _ _ hp, T.cl_Service, T.na_Service_rules, (lkp (by decide +kernel)).trans lkh, dR (c, d), h.rules.map dR, ha0.dp, (hlr.same stP s50).list_dp (fun _ _ r => r.dp), dR_shaped hsR, dRs_shaped hk.sr, _, rfl, ?_⟩
      rw [any_rule]
      cases ein : h.rules.contains (c, d) with
      | true =>
        rw [if_pos ein] at hst
        exact iteT (out_ref (RefE.of (s1.trans s50) (he (-4) hst)))
      | false =>
      refine iteF ?_
      rw [if_neg (by rw [ein]; exact Bool.false_ne_true)] at hst
      clear s5
      have s5 := s50
      refine ⟨_, rfl, p, T.c_Service, dx, _, _, rfl, s5 _ _ hp, T.cl_Service, T.na_Service_rules, (lkp (by decide +kernel)).trans lkh, .inl ⟨rfl, _, SqL.of (s5 _ _ hmv)⟩, _, rfl, _, rfl, small2, fun t nt => ?_⟩
      have s6 : Same H5 (upd H5 t (.tup [cv, dv])) := same_new nt
      have s7 := s5.trans s6
      have hmv7 := s7 _ _ hmv
      refine ⟨lr, mv, .ref t, rfl, rfl, hmv7, line_big (by omega), ?_⟩
      have ht8 : TS (upd H5 t (.tup [cv, dv])) (upd (upd H5 t (.tup [cv, dv])) lr (.lst (mv ++ [.ref t]))) := TS.lst hmv7
      have ht9 := s7.ts.trans ht8
      have htt : SqT K (upd (upd H5 t (.tup [cv, dv])) lr (.lst (mv ++ [.ref t]))) t [cv, dv] := sqT_ts ht8 (SqT.of upd_same)
      have hM9 : LA (PA' K) (upd (upd H5 t (.tup [cv, dv])) lr (.lst (mv ++ [.ref t]))) lr (h.rules ++ [(c, d)]) := ⟨mv ++ [.ref t], upd_same, paired_app (paired_imp (fun _ _ q => q.ts ht9) pmv) (.cons ⟨t, cv, dv, rfl, htt, hc.ts ht9, hd.ts ht9⟩ .nil)⟩
      have hO9 : LA (PA' K) (upd (upd H5 t (.tup [cv, dv])) lr (.lst (mv ++ [.ref t]))) la h.axioms := hla.at stP ht9 (by rw [upd_ne nlr]; obtain ⟨ov, ho, _⟩ := hla; rw [ho]; exact s7 _ _ ho)
      have hp9 : upd (upd H5 t (.tup [cv, dv])) lr (.lst (mv ++ [.ref t])) p = some (.ins T.c_Service dx [("axioms", .ref la), ("rules", .ref lr)]) := by rw [upd_ne (Ne.symm npr)]; exact s7 _ _ hp
      have k9 : ∀ b ob, H b = some ob → b ≠ lr → upd (upd H5 t (.tup [cv, dv])) lr (.lst (mv ++ [.ref t])) b = some ob := fun b ob e n => by rw [upd_ne n]; exact s7 _ _ (s1 _ _ e)
      have hm9 : upd (upd H5 t (.tup [cv, dv])) lr (.lst (mv ++ [.ref t])) lr = some (.lst (mv ++ [.ref t])) := upd_same
      generalize upd (upd H5 t (.tup [cv, dv])) lr (.lst (mv ++ [.ref t])) = H9 at ht8 ht9 htt hM9 hO9 hp9 k9 hm9
      refine ⟨_, rfl, p, T.c_Service, dx, _, _, rfl, hp9, T.cl_Service, T.na_Service_rules, (lkp (by decide +kernel)).trans lkh, lr, _, rfl, .inl (SqL.of hm9), _, _, rfl, rfl, small1, fun y ny => ?_⟩
      have s10 : Same H9 (upd H9 y (.lst [.int (((mv ++ [V.ref t]).length : Nat) - 1)])) := same_new ny
      have hq' := hq
      rw [hst] at hq'
      refine hq' _ y la lr ⟨⟨dx, s10 _ _ hp9⟩, hO9.same stP s10, hM9.same stP s10, nlr⟩ (hk.rule g hsR hn) ⟨fun b ob e _ n2 n3 => s10 _ _ (k9 b ob e n3), .inl rfl, .inl rfl⟩ ?_
      rw [upd_same, out_ok, List.length_append, List.length_singleton, ← l1]
      exact congrArg (fun z : Int => some (HO.lst [V.int z])) (by omega)
end
end Ex
/-! Calls one behind another: plain. -/
namespace Ex
open PySem PySem.Spec PyProof.Rows L2
open Oc (C)
def mkL (c : Int) (l : List Nat) : Oc07.Call := if c = 1 then .line l else if c = 2 then .rule l else if c = 3 then .normally l else if c = 4 then .always l else .rank l
/-- what a call is, by its word and its numbers -/
inductive CallIs : Int → List Int → Oc07.Call → Prop
  | lst {c : Int} {ns : List Int} (h1 : 1 ≤ c) (h5 : c ≤ 5) (hp : ∀ z ∈ ns, 0 ≤ z) (hl : ns.length ≤ 30) : CallIs c ns (mkL c (nats ns))
  | drp {j : Nat} : CallIs 7 [(j : Int)] (.drop j)
  | beg {ns : List Int} : CallIs 0 ns .begins
  | rks {ns : List Int} : CallIs 6 ns .ranks
/-- where a call's numbers begin and how many they are -/
inductive NumsAt (xs : List Int) (i : Nat) : Int → Nat → Nat → Prop
  | lst {c : Int} {m : Nat} (h1 : 1 ≤ c) (h5 : c ≤ 5) (hm : xs[i + 1]? = some (m : Int)) : NumsAt xs i c (i + 2) m
  | drp : NumsAt xs i 7 (i + 1) 1
  | beg : NumsAt xs i 0 (i + 1) 0
  | rks : NumsAt xs i 6 (i + 1) 0
structure Turn (xs : List Int) (i : Nat) (c : Int) (b m : Nat) (row : List (List Int)) (x : Oc07.Call) : Prop where
  wd : xs[i]? = some c
  num : NumsAt xs i c b m
  le : b + m ≤ xs.length
  gt : i < b + m
  is : CallIs c ((xs.drop b).take m) x
  cal : Oc07Neutral.callOf row = some x
  whl : PyOc07.whole row = row
theorem calls_cons {fuel : Nat} {p : Int} {r : List Int} {cs : List (List (List Int))} (h : PyFlat.calls PyOc07.shape fuel (p :: r) = some cs) :
    ∃ f' row t cs', PyFlat.call PyOc07.shape (p :: r) = some (row, t) ∧ PyFlat.calls PyOc07.shape f' t = some cs' ∧ cs = row :: cs' := by
  cases fuel with
  | zero => cases h
  | succ f =>
    have h' : (match PyFlat.call PyOc07.shape (p :: r) with
      | none => none
      | some (c, t) => match PyFlat.calls PyOc07.shape f t with
        | none => none
        | some cs => some (c :: cs)) = some cs := h
    cases e : PyFlat.call PyOc07.shape (p :: r) with
    | none => rw [e] at h'; cases h'
    | some z =>
      obtain ⟨row, t⟩ := z
      rw [e] at h'
      have h2 : (match PyFlat.calls PyOc07.shape f t with
        | none => none
        | some cs => some (row :: cs)) = some cs := h'
      cases e2 : PyFlat.calls PyOc07.shape f t with
      | none => rw [e2] at h2; cases h2
      | some cs' =>
        rw [e2] at h2
        exact ⟨f, row, t, cs', rfl, e2, (Option.some.inj h2).symm⟩
theorem call_by {p : Int} {n k : Nat} {r t : List Int} {row : List (List Int)} (hs : PyOc07.shape p = some (n, k)) (h : PyFlat.call PyOc07.shape (p :: r) = some (row, t)) :
    n ≤ r.length ∧ ∃ xs, PyFlat.rows k (r.drop n) = some (xs, t) ∧ row = (p :: r.take n) :: xs := by
  have h' : (match PyOc07.shape p with
    | none => none
    | some (n, k) => if r.length < n then none else match PyFlat.rows k (r.drop n) with
      | none => none
      | some (xs, t) => some ((p :: r.take n) :: xs, t)) = some (row, t) := h
  rw [hs] at h'
  have h2 : (if r.length < n then none else match PyFlat.rows k (r.drop n) with
      | none => none
      | some (xs, t) => some ((p :: r.take n) :: xs, t)) = some (row, t) := h'
  by_cases c : r.length < n
  · rw [if_pos c] at h2; cases h2
  · rw [if_neg c] at h2
    refine ⟨by omega, ?_⟩
    cases e : PyFlat.rows k (r.drop n) with
    | none => rw [e] at h2; cases h2
    | some z =>
      obtain ⟨xs, t'⟩ := z
      rw [e] at h2
      obtain ⟨h3, h4⟩ := Prod.mk.inj (Option.some.inj h2)
      exact ⟨xs, by rw [← h4], h3.symm⟩
theorem rows_one {r t : List Int} {xs : List (List Int)} (h : PyFlat.rows 1 r = some (xs, t)) : ∃ (n : Nat) (r' : List Int), r = (n : Int) :: r' ∧ n ≤ r'.length ∧ xs = [r'.take n] ∧ t = r'.drop n := by
  cases r with
  | nil => cases h
  | cons z r' =>
    have h' : (match (if 0 ≤ z ∧ z.toNat ≤ r'.length then some (r'.take z.toNat, r'.drop z.toNat) else none : Option (List Int × List Int)) with
      | none => none
      | some (x, s) => match PyFlat.rows 0 s with
        | none => none
        | some (xs, t) => some (x :: xs, t)) = some (xs, t) := h
    by_cases c : 0 ≤ z ∧ z.toNat ≤ r'.length
    · rw [if_pos c] at h'
      have h2 : some ([r'.take z.toNat], r'.drop z.toNat) = some (xs, t) := h'
      obtain ⟨h3, h4⟩ := Prod.mk.inj (Option.some.inj h2)
      exact ⟨z.toNat, r', by rw [Int.toNat_of_nonneg c.1], c.2, h3.symm, h4.symm⟩
    · rw [if_neg c] at h'; cases h'
theorem drop_cons {xs : List Int} {i : Nat} {p : Int} {r : List Int} (h : xs.drop i = p :: r) : xs[i]? = some p ∧ xs.drop (i + 1) = r ∧ i + 1 + r.length = xs.length := by
  have h1 : i < xs.length := by
    by_cases c : i < xs.length
    · exact c
    · rw [List.drop_eq_nil_of_le (by omega)] at h; cases h
  rw [List.drop_eq_getElem_cons h1] at h
  obtain ⟨h2, h3⟩ := List.cons.inj h
  refine ⟨by rw [List.getElem?_eq_getElem h1, h2], h3, ?_⟩
  rw [← h3, List.length_drop]
  omega
theorem shape_cases {p : Int} {z : Nat × Nat} (h : PyOc07.shape p = some z) : (p = 0 ∧ z = (0, 0)) ∨ (1 ≤ p ∧ p ≤ 5 ∧ z = (0, 1)) ∨ (p = 6 ∧ z = (0, 0)) ∨ (p = 7 ∧ z = (1, 0)) := by
  unfold PyOc07.shape at h
  by_cases h0 : p = 0
  · rw [if_pos h0] at h; exact .inl ⟨h0, (Option.some.inj h).symm⟩
  rw [if_neg h0] at h
  by_cases h1 : p = 1
  · rw [if_pos h1] at h; exact .inr (.inl ⟨by omega, by omega, (Option.some.inj h).symm⟩)
  rw [if_neg h1] at h
  by_cases h2 : p = 2
  · rw [if_pos h2] at h; exact .inr (.inl ⟨by omega, by omega, (Option.some.inj h).symm⟩)
  rw [if_neg h2] at h
  by_cases h3 : p = 3
  · rw [if_pos h3] at h; exact .inr (.inl ⟨by omega, by omega, (Option.some.inj h).symm⟩)
  rw [if_neg h3] at h
  by_cases h4 : p = 4
  · rw [if_pos h4] at h; exact .inr (.inl ⟨by omega, by omega, (Option.some.inj h).symm⟩)
  rw [if_neg h4] at h
  by_cases h5 : p = 5
  · rw [if_pos h5] at h; exact .inr (.inl ⟨by omega, by omega, (Option.some.inj h).symm⟩)
  rw [if_neg h5] at h
  by_cases h6 : p = 6
  · rw [if_pos h6] at h; exact .inr (.inr (.inl ⟨h6, (Option.some.inj h).symm⟩))
  rw [if_neg h6] at h
  by_cases h7 : p = 7
  · rw [if_pos h7] at h; exact .inr (.inr (.inr ⟨h7, (Option.some.inj h).symm⟩))
  rw [if_neg h7] at h; cases h
theorem five {p : Int} (h1 : 1 ≤ p) (h5 : p ≤ 5) : p = 1 ∨ p = 2 ∨ p = 3 ∨ p = 4 ∨ p = 5 := by omega
theorem bound_lst {p : Int} (h1 : 1 ≤ p) (h5 : p ≤ 5) : PyOc07.bound p = ([], [(0, 4294967295, 0, 30)]) := by
  rcases five h1 h5 with h | h | h | h | h <;> (subst h; rfl)
theorem call_lst {p : Int} (h1 : 1 ≤ p) (h5 : p ≤ 5) (l : List Int) : Oc07Neutral.callOf [[p], l] = some (mkL p (nats l)) ∧ PyOc07.whole [[p], l] = [[p], l] := by
  rcases five h1 h5 with h | h | h | h | h <;> (subst h; exact ⟨rfl, rfl⟩)
theorem in_lst {p : Int} (h1 : 1 ≤ p) (h5 : p ≤ 5) {l : List Int} (h : PyInside.call PyOc07.bound [[p], l] = true) : (∀ z ∈ l, 0 ≤ z) ∧ l.length ≤ 30 := by
  have h' : (PyInside.each (PyOc07.bound p).1 [] && PyInside.lists (PyOc07.bound p).2 [l]) = true := h
  rw [bound_lst h1 h5] at h'
  have h2 : (true && (decide (0 ≤ l.length) && decide (l.length ≤ 30) && l.all (PyInside.within 0 4294967295) && true)) = true := h'
  simp only [Bool.and_eq_true, decide_eq_true_eq, List.all_eq_true, PyInside.within] at h2
  exact ⟨fun z hz => (h2.2.1.2 z hz).1, h2.2.1.1.2⟩
theorem in_drp {x : Int} (h : PyInside.call PyOc07.bound [[7, x]] = true) : 0 ≤ x := by
  have h2 : ((decide (0 ≤ x) && decide (x ≤ 4294967295)) && true && true) = true := h
  simp only [Bool.and_eq_true, decide_eq_true_eq] at h2
  exact h2.1.1.1
theorem turn_of {xs : List Int} {i fuel : Nat} {cs : List (List (List Int))} (hi : i < xs.length) (h : PyFlat.calls PyOc07.shape fuel (xs.drop i) = some cs) (hb : PyInside.calls PyOc07.bound cs = true) :
    ∃ (c : Int) (b m : Nat) (row : List (List Int)) (x : Oc07.Call) (f' : Nat) (cs' : List (List (List Int))), cs = row :: cs' ∧ PyFlat.calls PyOc07.shape f' (xs.drop (b + m)) = some cs' ∧ PyInside.calls PyOc07.bound cs' = true ∧ Turn xs i c b m row x := by
  have hd : xs.drop i = xs[i] :: xs.drop (i + 1) := List.drop_eq_getElem_cons hi
  generalize xs[i] = p at hd
  generalize hr : xs.drop (i + 1) = r at hd
  obtain ⟨hp, _, hlen⟩ := drop_cons hd
  rw [hd] at h
  obtain ⟨f', row, t, cs', hcall, hrest, rfl⟩ := calls_cons h
  have hb2 : (PyInside.call PyOc07.bound row && PyInside.calls PyOc07.bound cs') = true := hb
  obtain ⟨hbr, hbc⟩ := Bool.and_eq_true_iff.mp hb2
  cases hs : PyOc07.shape p with
  | none =>
    exfalso
    have h' : (match PyOc07.shape p with
      | none => none
      | some (n, k) => if r.length < n then none else match PyFlat.rows k (r.drop n) with
        | none => none
        | some (xs, t) => some ((p :: r.take n) :: xs, t)) = some (row, t) := hcall
    rw [hs] at h'
    cases h'
  | some z =>
    obtain ⟨n, k⟩ := z
    obtain ⟨hn, ys, hrows, hrow⟩ := call_by hs hcall
    rcases shape_cases hs with ⟨rfl, e⟩ | ⟨h1, h5, e⟩ | ⟨rfl, e⟩ | ⟨rfl, e⟩
    · obtain ⟨rfl, rfl⟩ := Prod.mk.inj e
      obtain ⟨rfl, rfl⟩ := Prod.mk.inj (Option.some.inj hrows)
      subst hrow
      exact ⟨0, i + 1, 0, _, .begins, f', cs', rfl, by rw [Nat.add_zero, hr]; exact hrest, hbc, hp, .beg, by omega, by omega, .beg, rfl, rfl⟩
    · obtain ⟨rfl, rfl⟩ := Prod.mk.inj e
      obtain ⟨m, r', hr', hm, rfl, rfl⟩ := rows_one hrows
      have hr2 : r = (m : Int) :: r' := hr'
      subst hr2
      obtain ⟨hm1, hm2, hm3⟩ := drop_cons hr
      have hrow2 : row = [[p], r'.take m] := hrow
      subst hrow2
      obtain ⟨q1, q2⟩ := in_lst h1 h5 hbr
      obtain ⟨q3, q4⟩ := call_lst h1 h5 (r'.take m)
      have e2 : (xs.drop (i + 2)) = r' := hm2
      refine ⟨p, i + 2, m, _, mkL p (nats (r'.take m)), f', cs', rfl, ?_, hbc, hp, .lst h1 h5 hm1, by omega, by omega, ?_, q3, q4⟩
      · rw [← List.drop_drop, e2]
        exact hrest
      · rw [e2]
        exact .lst h1 h5 q1 q2
    · obtain ⟨rfl, rfl⟩ := Prod.mk.inj e
      obtain ⟨rfl, rfl⟩ := Prod.mk.inj (Option.some.inj hrows)
      subst hrow
      exact ⟨6, i + 1, 0, _, .ranks, f', cs', rfl, by rw [Nat.add_zero, hr]; exact hrest, hbc, hp, .rks, by omega, by omega, .rks, rfl, rfl⟩
    · obtain ⟨rfl, rfl⟩ := Prod.mk.inj e
      obtain ⟨rfl, rfl⟩ := Prod.mk.inj (Option.some.inj hrows)
      cases r with
      | nil => exact absurd hn (by show ¬ 1 ≤ 0; omega)
      | cons y r' =>
        have hrow2 : row = [[7, y]] := hrow
        subst hrow2
        have hy := in_drp hbr
        obtain ⟨j, rfl⟩ : ∃ j : Nat, y = (j : Int) := ⟨y.toNat, (Int.toNat_of_nonneg hy).symm⟩
        obtain ⟨hm1, hm2, hm3⟩ := drop_cons hr
        refine ⟨7, i + 1, 1, _, .drop j, f', cs', rfl, ?_, hbc, hp, .drp, by omega, by omega, ?_, rfl, rfl⟩
        · rw [hm2]
          exact hrest
        · rw [hr]
          exact .drp
/-- what remains to be told -/
def rest (h : Oc07.House) (cs : List (List (List Int))) : List Int := PyFlat.told (PyFlat.played Oc07Neutral.step h (cs.map PyOc07.whole))
theorem rest_nil (h : Oc07.House) : rest h [] = [] := rfl
theorem rest_cons {xs : List Int} {i : Nat} {c : Int} {b m : Nat} {row : List (List Int)} {x : Oc07.Call} (t : Turn xs i c b m row x) (h : Oc07.House) (cs : List (List (List Int))) :
    rest h (row :: cs) = (((Oc07Neutral.out (Oc07.step h x).2).length : Nat) : Int) :: (Oc07Neutral.out (Oc07.step h x).2 ++ rest (Oc07.step h x).1 cs) := by
  have e : Oc07Neutral.step h row = ((Oc07.step h x).1, Oc07Neutral.out (Oc07.step h x).2) := by
    unfold Oc07Neutral.step
    rw [t.cal]
  unfold rest
  rw [List.map_cons, t.whl]
  show PyFlat.told ((Oc07Neutral.step h row).2 :: PyFlat.played Oc07Neutral.step (Oc07Neutral.step h row).1 (cs.map PyOc07.whole)) = _
  rw [e]
  rfl
end Ex
/-! asked, answer, numbers_behind. -/
namespace Ex
open PySem PySem.Spec PyProof.Rows L2
open Oc (C)
section
variable {P : Program} {w : World} {K : PySem.W.Frag} {mg : Str → Option Value} {base : Heap}
def spAsk (K : PySem.W.Frag) (cS cE : Addr) : Sp := fun vs H Q E => ∃ (s la lr a : Addr) (h : Oc07.House) (c : Int) (ns : List Int), vs = [.ref s, .int c, .ref a] ∧ 1 ≤ c ∧ c ≤ 5 ∧ SqL K H a (ns.map V.int) ∧ (∀ x ∈ ns, 0 ≤ x) ∧ ns.length ≤ 30 ∧
  Ahead K cS cE H Q E s la lr h (Oc07.step h (mkL c (nats ns)))
theorem ok_asked (T : Txt K mg) : FnOk P w K mg base (L2.CX P w) 42 T.a_asked T.d_asked ["service", "call", "numbers"] (spAsk K T.c_Service T.c_Ref) := by
  have G1 := ok_line (P := P) (w := w) (base := base) T
  have G2 := ok_rule (P := P) (w := w) (base := base) T
  have G3 := ok_normally (P := P) (w := w) (base := base) T
  have G4 := ok_always (P := P) (w := w) (base := base) T
  have G5 := ok_rank (P := P) (w := w) (base := base) T
  refine T.f_asked.okX sc_asked (fun vs H Q E h => ?_) (fun cdv A outer s H vs Q E hr h => ?_)
  · obtain ⟨s, la, lr, a, h, c, ns, rfl, _⟩ := h
    rfl
  obtain ⟨p, la, lr, a, h, c, ns, rfl, h1, h5, hN, hpos, h30, hA⟩ := h
  have tk := L2.takes_of (X := cxOf (L2.CX P w) P w K mg base ["service", "call", "numbers"] "asked" (defScope s_asked) T.a_asked cdv A outer s H E) rfl rfl rfl rfl
  refine ⟨_, pss_cons (ps_if (pt_cmpR op_eq (pv 1) (gI T.k_LINE) (nomark _)) (pss_one (ps_ret (pe_methA (pv 0) T.cl_Service T.m_line G1 hr T.b_line (fun σ => passAt tk σ) (by exact (pa_cons (pv 2) pa_nil))))) pss_nil)
    (pss_cons (ps_if (pt_cmpR op_eq (pv 1) (gI T.k_RULE) (nomark _)) (pss_one (ps_ret (pe_methA (pv 0) T.cl_Service T.m_rule G2 hr T.b_rule (fun σ => passAt tk σ) (by exact (pa_cons (pv 2) pa_nil))))) pss_nil)
    (pss_cons (ps_if (pt_cmpR op_eq (pv 1) (gI T.k_NORMALLY) (nomark _)) (pss_one (ps_ret (pe_methA (pv 0) T.cl_Service T.m_normally G3 hr T.b_normally (fun σ => passAt tk σ) (by exact (pa_cons (pv 2) pa_nil))))) pss_nil)
    (pss_one (ps_ret (pe_ifExp (pt_cmpR op_eq (pv 1) (gI T.k_ALWAYS) (nomark _)) (pe_methA (pv 0) T.cl_Service T.m_always G4 hr T.b_always (fun σ => passAt tk σ) (by exact (pa_cons (pv 2) pa_nil)))
      (pe_methA (pv 0) T.cl_Service T.m_rank G5 hr T.b_rank (fun σ => passAt tk σ) (by exact (pa_cons (pv 2) pa_nil)))))))), ?_⟩
  obtain ⟨dx, hp⟩ := hA.S.1
  have ne : ∀ {x y : Int}, ¬ x = y → ¬ V.int x = V.int y := fun n z => n (V.int.inj z)
  rcases five h1 h5 with e | e | e | e | e
  · subst e
    exact ⟨_, rfl, rfl, _, rfl, ite_eq rfl ⟨_, rfl, p, dx, _, rfl, hp, lkn2 (by decide +kernel) (by decide +kernel), _, rfl, p, la, lr, a, h, ns, rfl, hN, hpos, h30, hA⟩⟩
  · subst e
    exact ⟨_, rfl, rfl, _, rfl, ite_en (ne (by decide)) ⟨_, rfl, rfl, _, rfl, ite_eq rfl ⟨_, rfl, p, dx, _, rfl, hp, lkn2 (by decide +kernel) (by decide +kernel), _, rfl, p, la, lr, a, h, ns, rfl, hN, hpos, h30, hA⟩⟩⟩
  · subst e
    exact ⟨_, rfl, rfl, _, rfl, ite_en (ne (by decide)) ⟨_, rfl, rfl, _, rfl, ite_en (ne (by decide)) ⟨_, rfl, rfl, _, rfl, ite_eq rfl ⟨_, rfl, p, dx, _, rfl, hp, lkn2 (by decide +kernel) (by decide +kernel), _, rfl, p, la, lr, a, h, ns, rfl, hN, hpos, h30, hA⟩⟩⟩⟩
  · subst e
    exact ⟨_, rfl, rfl, _, rfl, ite_en (ne (by decide)) ⟨_, rfl, rfl, _, rfl, ite_en (ne (by decide)) ⟨_, rfl, rfl, _, rfl, ite_en (ne (by decide)) ⟨_, rfl, rfl, _, rfl, ite_eq rfl ⟨_, rfl, p, dx, _, rfl, hp, lkn2 (by decide +kernel) (by decide +kernel), _, rfl, p, la, lr, a, h, ns, rfl, hN, hpos, h30, hA⟩⟩⟩⟩⟩
  · subst e
    exact ⟨_, rfl, rfl, _, rfl, ite_en (ne (by decide)) ⟨_, rfl, rfl, _, rfl, ite_en (ne (by decide)) ⟨_, rfl, rfl, _, rfl, ite_en (ne (by decide)) ⟨_, rfl, rfl, _, rfl, ite_en (ne (by decide)) ⟨_, rfl, p, dx, _, rfl, hp, lkn2 (by decide +kernel) (by decide +kernel), _, rfl, p, la, lr, a, h, ns, rfl, hN, hpos, h30, hA⟩⟩⟩⟩⟩
/-! ### answer -/
def spAnsw (K : PySem.W.Frag) (cS : Addr) : Sp := fun vs H Q _ => ∃ (s la lr a : Addr) (h : Oc07.House) (c : Int) (ns : List Int) (x : Oc07.Call), vs = [.ref s, .int c, .ref a] ∧ CallIs c ns x ∧ SqL K H a (ns.map V.int) ∧
  SvA K cS H h s la lr ∧ HOK h ∧ OutQ K cS H Q s la lr (Oc07.step h x)
theorem caught (T : Txt K mg) {H : Hp} {Q : VK} {p la lr : Addr} {h : Oc07.House} {x : Oc07.House × Oc07.Ans} (hS : SvA K T.c_Service H h p la lr) (hk : HOK h) (hq : OutQ K T.c_Service H Q p la lr x) (vs : List V) (hv : vs.length = 3) :
    Ahead K T.c_Service T.c_Ref H Q (WE (wAs K (.ref T.c_Ref) 3 (fun a cls d => tRet (tLst (tCons (tXf a cls d T.c_Ref "code" (tVar 3)) tNil))) (fun _ _ _ _ => False) { nx := fun _ H' => Q .non H', rt := Q }) (L2.start ["service", "call", "numbers", "e"] vs)) p la lr h x := by
  refine ⟨hS, hk, hq, fun code ex d H' s' e => ⟨true, T.eR, fun _ a0 na => ?_, fun z => Bool.noConfusion z⟩⟩
  match vs, hv with
  | [x, y, z], _ =>
    refine ⟨_, rfl, rfl, rfl, d, _, _, rfl, e, lkh, small1, fun u nu => ?_⟩
    exact hq.stay ex hS hk (s'.trans (same_new nu)) upd_same rfl
theorem ok_answer (T : Txt K mg) : FnOk P w K mg base CX0 43 T.a_answer T.d_answer ["service", "call", "numbers"] (spAnsw K T.c_Service) := by
  have GA := ok_asked (P := P) (w := w) (base := base) T
  have GD := ok_drop (P := P) (w := w) (base := base) T
  have GB := ok_begins (P := P) (w := w) (base := base) T
  have GR := ok_toldR (P := P) (w := w) (base := base) T
  refine T.f_answer.ok sc_answer (fun vs H Q E h => ?_) (fun cdv A outer s H vs Q E hr h => ?_)
  · obtain ⟨s, la, lr, a, h, c, ns, x, rfl, _⟩ := h
    rfl
  obtain ⟨p, la, lr, a, h, c, ns, x, rfl, hc, hN, hS, hk, hq⟩ := h
  have hrD : Room 3 _ := hr.mono (by decide)
  have hrB : Room 1 _ := hr.mono (by decide)
  have hrR : Room 41 _ := hr.mono (by decide)
  refine ⟨_, pss_one (ps_try_as (i := 3)
      (tb := fun W => tSeq (tIfS (tTest (tOp (rIn K false) (tVar 1) (tC (.ref T.with_)))) (tRet (tCallS (spAsk K T.c_Service T.c_Ref) (WE W) (tCons (tVar 0) (tCons (tVar 1) (tCons (tVar 2) tNil))))) tNext)
        (tSeq (tIfS (tTest (tOp rEq (tVar 1) (tC (.int 7)))) (tRet (tMethA T.c_Service "drop" (spDrop K T.c_Service T.c_Ref) (WE W) (tVar 0) (tCons (tOp (rIxL K) (tVar 2) (tC (.int 0))) tNil))) tNext)
          (tRet (tIf (tTest (tOp rEq (tVar 1) (tC (.int 0)))) (tMethA T.c_Service "begins" (spOp0 K T.c_Service T.c_Ref .begins) (WE W) (tVar 0) tNil) (tMethA T.c_Service "told_ranks" (spOp0 K T.c_Service T.c_Ref .ranks) (WE W) (tVar 0) tNil)))))
      (ts := fun a cls d => tRet (tLst (tCons (tXf a cls d T.c_Ref "code" (tVar 3)) tNil))) (Wout := fun _ _ _ _ => False) rfl rfl sc_answer.nd rfl rfl ⟨rfl, by decide, .inl T.gR⟩ takes0
      (fun W pn xe tk _ => pss_cons (ps_if (pt_cmpR op_in_seq (pv 1) (pe_glob rfl T.g_WITH rfl) rfl) (pss_one (ps_ret (pe_callS GA hr rfl T.g_asked T.f_asked.kp T.b_asked (fun σ => passAt tk σ) (by exact (pa_cons (pv 0) (pa_cons (pv 1) (pa_cons (pv 2) pa_nil))))))) pss_nil)
        (pss_cons (ps_if (pt_cmpR op_eq (pv 1) (gI T.k_DROP) (nomark _)) (pss_one (ps_ret (pe_methA (pv 0) T.cl_Service T.m_drop GD hrD T.b_drop (fun σ => passAt tk σ) (by exact (pa_cons (pe_ix ix_list (pv 2) pe_int (fun _ _ => rfl)) pa_nil))))) pss_nil)
        (pss_one (ps_ret (pe_ifExp (pt_cmpR op_eq (pv 1) (gI T.k_BEGINS) (nomark _)) (pe_methA0 (pv 0) T.cl_Service T.m_begins GB hrB T.b_begins (fun σ => passAt tk σ)) (pe_methA0 (pv 0) T.cl_Service T.m_toldR GR hrR T.b_toldR (fun σ => passAt tk σ)))))))
      (fun a oe cls d pn hz hf => pss_one (ps_ret (pe_lst (pa_cons (pe_xf T.fR T.nR hz hf (pv 3)) pa_nil))))), ?_⟩
  obtain ⟨dx, hp⟩ := hS.1
  have ne : ∀ {x y : Int}, ¬ x = y → ¬ V.int x = V.int y := fun n z => n (V.int.inj z)
  have hw : ∀ c : Int, inV (.int c) [.int 1, .int 2, .int 3, .int 4, .int 5] = decide (1 ≤ c ∧ c ≤ 5) := fun c => by
    show ((1 == c) || ((2 == c) || ((3 == c) || ((4 == c) || ((5 == c) || false))))) = _
    rw [Bool.eq_iff_iff]
    simp only [Bool.or_eq_true, beq_iff_eq, decide_eq_true_eq, Bool.or_false]
    omega
  refine ⟨_, rfl, T.with_, _, rfl, .inr (T.t_WITH H), rfl, rfl, ?_⟩
  refine ⟨_, rfl, ?_⟩
  rw [if_neg Bool.false_ne_true, hw]
  cases hc with
  | lst h1 h5 hpos h30 =>
    rw [decide_eq_true ⟨h1, h5⟩]
    exact iteT ⟨_, rfl, _, rfl, _, rfl, p, la, lr, a, h, c, ns, rfl, h1, h5, hN, hpos, h30, caught T hS hk hq _ rfl⟩
  | @drp j =>
    rw [decide_eq_false (by omega)]
    refine iteF ⟨_, rfl, rfl, _, rfl, ite_eq rfl ⟨_, rfl, p, dx, _, rfl, hp, lkn2 (by decide +kernel) (by decide +kernel), _, rfl, a, _, _, _, rfl, rfl, hN, atI_nat (j := 0) rfl, ?_⟩⟩
    exact ⟨p, la, lr, h, j, rfl, caught T hS hk hq _ rfl⟩
  | beg =>
    rw [decide_eq_false (by omega)]
    refine iteF ⟨_, rfl, rfl, _, rfl, ite_en (ne (by decide)) ⟨_, rfl, rfl, _, rfl, ite_eq rfl ⟨_, rfl, p, dx, _, rfl, hp, lkn2 (by decide +kernel) (by decide +kernel), ?_⟩⟩⟩
    exact ⟨p, la, lr, h, rfl, caught T hS hk hq _ rfl⟩
  | rks =>
    rw [decide_eq_false (by omega)]
    refine iteF ⟨_, rfl, rfl, _, rfl, ite_en (ne (by decide)) ⟨_, rfl, rfl, _, rfl, ite_en (ne (by decide)) ⟨_, rfl, p, dx, _, rfl, hp, lkn2 (by decide +kernel) (by decide +kernel), ?_⟩⟩⟩
    exact ⟨p, la, lr, h, rfl, caught T hS hk hq _ rfl⟩
end
end Ex
/-! numbers_behind. -/
namespace Ex
open PySem PySem.Spec PyProof.Rows L2
open Oc (C)
theorem cut_mid {xs : List V} {b m : Nat} (h : b + m ≤ xs.length) : cutV xs (some (b : Int)) (some ((b + m : Nat) : Int)) = (xs.drop b).take m := by
  unfold cutV
  rw [HT.sIx_nat, HT.sIx_nat, Nat.min_eq_left h, Nat.min_eq_left (by omega), Nat.add_sub_cancel_left]
theorem in_with (c : Int) : inV (.int c) [.int 1, .int 2, .int 3, .int 4, .int 5] = decide (1 ≤ c ∧ c ≤ 5) := by
  show ((1 == c) || ((2 == c) || ((3 == c) || ((4 == c) || ((5 == c) || false))))) = _
  rw [Bool.eq_iff_iff]
  simp only [Bool.or_eq_true, beq_iff_eq, decide_eq_true_eq, Bool.or_false]
  omega
section
variable {P : Program} {w : World} {K : PySem.W.Frag} {mg : Str → Option Value} {base : Heap}
def spNums (K : PySem.W.Frag) : Sp := fun vs H Q _ => ∃ (f : Addr) (xs : List Int) (i : Nat) (c : Int) (b m : Nat), vs = [.ref f, .int i] ∧ SqL K H f (xs.map V.int) ∧ xs[i]? = some c ∧ NumsAt xs i c b m ∧ b + m ≤ xs.length ∧
  ∀ (H' : Hp) (t l : Addr), Same H H' → H' t = some (.tup [.ref l, .int (b + m : Nat)]) → H' l = some (.lst (((xs.drop b).take m).map V.int)) → Q (.ref t) H'
theorem ok_numBh (T : Txt K mg) : FnOk P w K mg base CX0 1 T.a_numBh T.d_numBh ["calls", "at"] (spNums K) := by
  refine T.f_numBh.ok sc_numBh (fun vs H Q E h => ?_) (fun cdv A outer s H vs Q E hr h => ?_)
  · obtain ⟨f, xs, i, c, b, m, rfl, _⟩ := h
    rfl
  obtain ⟨f, xs, i, c, b, m, rfl, hS, hc, hn, hle, q⟩ := h
  refine ⟨_, pss_cons (ps_set (i := 2) sc_numBh.nd rfl (Or.inl rfl) (pe_op op_add (pv 1) pe_int))
    (pss_cons (ps_if (pt_cmpR op_in_seq (pe_ix ix_list (pv 0) (pv 1) (fun _ _ => rfl)) (pe_glob rfl T.g_WITH (show L2.RelV (.ref T.with_) (.ref T.with_) from rfl)) rfl)
      (pss_one (ps_par (i := 2) (j := 3) (by rfl) sc_numBh.nd rfl rfl (by decide) rfl rfl (pa_cons (pe_op op_add (pv 1) pe_int) (pa_cons (pe_ix ix_list (pv 0) (pe_op op_add (pv 1) pe_int) (fun _ _ => rfl)) pa_nil)) (by rfl)))
      (pss_one (ps_set (i := 3) sc_numBh.nd rfl (Or.inl rfl) (pe_callTy call_int1 rfl T.z_int (by decide +kernel) (pa_cons (pe_cmpR op_eq (pe_ix ix_list (pv 0) (pv 1) (fun _ _ => rfl)) (gI T.k_DROP) (nomark _)) pa_nil)))))
    (pss_one (ps_ret (pe_tup (pa_cons (pe_slice sl_list (pv 0) (po_some (pv 2)) (po_some (pe_op op_add (pv 2) (pv 3)))) (pa_cons (pe_op op_add (pv 2) (pv 3)) pa_nil)))))), ?_⟩
  have hlen : b + m ≤ (xs.map V.int).length := by rw [List.length_map]; exact hle
  -- the end
  have fin : tRet (tTup (tCons (tSl (rSlL K) (tVar 0) (tPart (tVar 2)) (tPart (tOp (rI0 fun i j => .int (i + j)) (tVar 2) (tVar 3)))) (tCons (tOp (rI0 fun i j => .int (i + j)) (tVar 2) (tVar 3)) tNil)))
      { nx := fun _ H' => Q .non H', rt := Q } [some (.ref f), some (.int i), some (.int (b : Nat)), some (.int (m : Nat))] H := by
    refine ⟨_, rfl, _, rfl, _, rfl, _, rfl, _, rfl, _, _, rfl, rfl, _, rfl, f, _, rfl, hS, fun l nl => ?_⟩
    have s1 : Same H (upd H l (.lst (cutV (xs.map V.int) (some (b : Int)) (some ((b : Int) + (m : Int)))))) := same_new nl
    refine ⟨_, rfl, _, rfl, _, _, rfl, rfl, small2, fun t nt => ?_⟩
    have s2 := s1.trans (same_new (o := .tup [.ref l, .int ((b : Int) + (m : Int))]) nt)
    have e : ((b : Int) + (m : Int)) = ((b + m : Nat) : Int) := by omega
    refine q _ t l s2 (upd_same.trans (congrArg (fun z : Int => some (HO.tup [V.ref l, V.int z])) e)) ?_
    rw [upd_ne (ne_of_none upd_same nt), upd_same, e, cut_mid hlen, List.map_take, List.map_drop]
  refine ⟨_, rfl, _, _, rfl, rfl, _, rfl, _, rfl, f, _, _, _, rfl, rfl, hS, atI_nat (ints_at hc), T.with_, _, rfl, .inr (T.t_WITH H), rfl, rfl, _, rfl, ?_⟩
  rw [if_neg Bool.false_ne_true, in_with]
  cases hn with
  | lst h1 h5 hm =>
    rw [decide_eq_true ⟨h1, h5⟩]
    refine iteT ⟨_, rfl, _, _, rfl, rfl, _, rfl, _, rfl, _, _, rfl, rfl, f, _, _, _, rfl, rfl, hS, (by rw [show ((i : Int) + 1) = ((i + 1 : Nat) : Int) by omega]; exact atI_nat (ints_at hm)), _, _, rfl, ?_⟩
    exact fin
  | drp =>
    rw [decide_eq_false (by omega)]
    refine iteF ⟨_, rfl, _, rfl, f, _, _, _, rfl, rfl, hS, atI_nat (ints_at hc), rfl, .inr ⟨_, rfl, ?_⟩⟩
    rw [decide_eq_true (rfl : V.int 7 = V.int 7)]
    exact fin
  | beg =>
    rw [decide_eq_false (by omega)]
    refine iteF ⟨_, rfl, _, rfl, f, _, _, _, rfl, rfl, hS, atI_nat (ints_at hc), rfl, .inr ⟨_, rfl, ?_⟩⟩
    rw [decide_eq_false (fun z => absurd (V.int.inj z) (by decide) : ¬ V.int 0 = V.int 7)]
    exact fin
  | rks =>
    rw [decide_eq_false (by omega)]
    refine iteF ⟨_, rfl, _, rfl, f, _, _, _, rfl, rfl, hS, atI_nat (ints_at hc), rfl, .inr ⟨_, rfl, ?_⟩⟩
    rw [decide_eq_false (fun z => absurd (V.int.inj z) (by decide) : ¬ V.int 6 = V.int 7)]
    exact fin
end
end Ex
/-! answers. -/
namespace Ex
open PySem PySem.Spec PyProof.Rows L2
open Oc (C)
/-! ### the calls' own list -/
/-- the calls stand at f, apart from the addresses l -/
def Cl (K : PySem.W.Frag) (H : Hp) (f : Addr) (xs : List V) (l : List Addr) : Prop := ((H f = some (.lst xs) ∨ ∃ o, H f = some (.frz o (.lst xs))) ∧ f ∉ l) ∨ SqL K (fun _ => none) f xs
theorem same_empty (H : Hp) : Same (fun _ => none) H := fun _ _ e => by cases e
theorem Cl.seq {K : PySem.W.Frag} {H : Hp} {f : Addr} {xs : List V} {l : List Addr} (h : Cl K H f xs l) : SqL K H f xs := by
  rcases h with ⟨h, _⟩ | h
  · exact .inl h
  · exact (same_empty H).seq h
theorem Cl.of {K : PySem.W.Frag} {H : Hp} {f : Addr} {xs : List V} (h : SqL K H f xs) : Cl K H f xs [] := by
  rcases h with h | h
  · exact .inl ⟨h, fun z => (nomatch z)⟩
  · exact .inr (.inr h)
theorem Cl.go {K : PySem.W.Frag} {H H' : Hp} {f : Addr} {xs : List V} {l l' : List Addr} (h : Cl K H f xs l) (k : ∀ b ob, H b = some ob → b ∉ l → H' b = some ob) (n : ∀ a ∈ l', a ∈ l ∨ H a = none) : Cl K H' f xs l' := by
  rcases h with ⟨h, hn⟩ | h
  · refine .inl ⟨h.elim (fun h => .inl (k _ _ h hn)) (fun ⟨o, h⟩ => .inr ⟨o, k _ _ h hn⟩), fun z => ?_⟩
    rcases n f z with q | q
    · exact hn q
    · rcases h with h | ⟨o, h⟩ <;> (rw [q] at h; cases h)
  · exact .inr h
theorem mem3 {b x y z : Addr} (h : b ∉ [x, y, z]) : b ≠ x ∧ b ≠ y ∧ b ≠ z := ⟨fun e => h (e ▸ List.mem_cons_self), fun e => h (e ▸ List.mem_cons_of_mem _ List.mem_cons_self), fun e => h (e ▸ List.mem_cons_of_mem _ (List.mem_cons_of_mem _ List.mem_cons_self))⟩
section
variable {P : Program} {w : World} {K : PySem.W.Frag} {mg : Str → Option Value} {base : Heap}
def spAns (K : PySem.W.Frag) : Sp := fun vs H Q _ => ∃ (f : Addr) (xs : List Int), vs = [.ref f] ∧ SqL K H f (xs.map V.int) ∧ PyOc07.answers_asked xs = true ∧
  ∀ (H' : Hp) (p : Addr), H' p = some (.lst ((PyOc07.answers xs).map V.int)) → Q (.ref p) H'
/-- between two turns -/
structure Ply (K : PySem.W.Frag) (cS : Addr) (xs : List Int) (f : Addr) (n : Nat) (σ : L2.St) (H : Hp) (s fd la lr : Addr) (i : Nat) (h : Oc07.House) (acc : List Int) (fuel : Nat) (cs : List (List (List Int))) (cv nv tv : Option V) : Prop where
  sl : σ = [some (.ref f), some (.ref s), some (.ref fd), some (.int i), cv, nv, tv]
  cl : Cl K H f (xs.map V.int) [fd, s, la, lr]
  S : SvA K cS H h s la lr
  k : HOK h
  fn : H fd = some (.lst (acc.map V.int))
  ap : fd ∉ [s, la, lr]
  le : i ≤ xs.length
  cc : PyFlat.calls PyOc07.shape fuel (xs.drop i) = some cs
  ib : PyInside.calls PyOc07.bound cs = true
  eq : PyOc07.answers xs = acc ++ rest h cs
  me : n = xs.length - i
theorem ok_answers (T : Txt K mg) : FnOk P w K mg base CX0 44 T.a_answers T.d_answers ["calls"] (spAns K) := by
  have GS := ok_seI (P := P) (w := w) (base := base) T
  have GN := ok_numBh (P := P) (w := w) (base := base) T
  have GA := ok_answer (P := P) (w := w) (base := base) T
  refine T.f_answers.ok sc_answers (fun vs H Q E h => ?_) (fun cdv A outer s H vs Q E hr h => ?_)
  · obtain ⟨f, xs, rfl, _⟩ := h
    rfl
  obtain ⟨f, xs, rfl, hS, hask, q⟩ := h
  have hrS : Room 2 _ := hr.mono (by decide)
  have hrN : Room 1 _ := hr.mono (by decide)
  refine ⟨_, pss_cons (ps_par3 (i := 1) (j := 2) (l := 3) (by rfl) sc_answers.nd rfl rfl rfl (by decide) (by decide) (by decide) rfl rfl rfl (pa_cons (pe_make0 T.m_seI GS hrS rfl T.gc_Service T.b_seI .nil pass0) (pa_cons (pe_lst pa_nil) (pa_cons pe_int pa_nil))) (by rfl))
    (pss_cons (ps_while PassesOwn.never (pt_cmpR op_lt (pv 3) (pe_callB call_len_seq rfl T.z_len PySem.boot_len (pa_cons (pv 0) pa_nil)) (nomark _))
      (pss_cons (ps_set (i := 4) sc_answers.nd rfl (Or.inl rfl) (pe_ix ix_list (pv 0) (pv 3) (fun _ _ => rfl)))
      (pss_cons (ps_asg (pe_call GN hrN rfl T.g_numBh T.f_numBh.kp T.b_numBh .nil pass0 (pa_cons (pv 0) (pa_cons (pv 3) pa_nil)))
        (pg_tup rfl (pgs_cons (pg_name (i := 5) sc_answers.nd rfl (Or.inl rfl)) (pgs_cons (pg_name (i := 3) sc_answers.nd rfl (Or.inl rfl)) pgs_nil))))
      (pss_cons (ps_set (i := 6) sc_answers.nd rfl (Or.inl rfl) (pe_call GA hr rfl T.g_answer T.f_answer.kp T.b_answer .nil pass0 (pa_cons (pv 1) (pa_cons (pv 4) (pa_cons (pv 5) pa_nil)))))
      (pss_one (ps_expr (pe_bm PySem.F.plainAttrs_list PySem.F.slot_list_extend PySem.F.type_list_extend mt_extend (pv 2) (pa_cons (pe_op op_cat (pe_lst (pa_cons (pe_callB call_len_seq rfl T.z_len PySem.boot_len (pa_cons (pv 6) pa_nil)) pa_nil)) (pv 6)) pa_nil))))))))
    (pss_one (ps_ret (pv 2)))), ?_⟩
  -- what is asked
  obtain ⟨cs, hcs, hib, hans, hbig⟩ : ∃ cs, PyFlat.calls PyOc07.shape xs.length xs = some cs ∧ PyInside.calls PyOc07.bound cs = true ∧ PyOc07.answers xs = rest Oc07.init cs ∧ (PyOc07.answers xs).length ≤ 10000000 := by
    unfold PyOc07.answers_asked at hask
    cases e : PyFlat.calls PyOc07.shape xs.length xs with
    | none => rw [e] at hask; cases hask
    | some cs =>
      rw [e] at hask
      have hask' : (!cs.isEmpty && PyFlat.atMost 60 cs && PyInside.calls PyOc07.bound cs && Oc07Neutral.asked (cs.map PyOc07.whole) && PyFlat.short 10000000 (PyOc07.answers xs)) = true := hask
      simp only [Bool.and_eq_true] at hask'
      refine ⟨cs, rfl, hask'.1.1.2, ?_, of_decide_eq_true hask'.2⟩
      unfold PyOc07.answers PyOc07.calls
      rw [e]
      rfl
  have hbig2 : 10000000 < sizeLine := by decide
  refine fun x xd nx nd nxd => ⟨x, xd, rfl, upd_same, fun H1 la lr hS1 nla nlr kb => ⟨rfl, (by decide : 0 ≤ sizeLine), fun fd nfd => ⟨_, _, _, rfl, ?_⟩⟩⟩
  have sx : Same H (upd (upd H xd (.own x)) x (.ins T.c_Service xd [])) := (same_new nd).trans (same_new (by rw [upd_ne (Ne.symm nxd)]; exact nx))
  have s1 : Same H H1 := Same.made nx nd kb
  have s2 : Same H1 (upd H1 fd (.lst [])) := same_new nfd
  have s3 := s1.trans s2
  have hfd2 : upd H1 fd (.lst []) fd = some (.lst (([] : List Int).map V.int)) := upd_same
  have hap : fd ∉ [x, la, lr] := fun z => by
    obtain ⟨⟨dx, e1⟩, ⟨_, e2, _⟩, ⟨_, e3, _⟩, _⟩ := hS1
    rcases List.mem_cons.mp z with z | z
    · rw [← z, nfd] at e1; cases e1
    · rcases List.mem_cons.mp z with z | z
      · rw [← z, nfd] at e2; cases e2
      · rw [← List.mem_singleton.mp z, nfd] at e3; cases e3
  have hS2 := hS1.same s2
  have hcl : Cl K (upd H1 fd (.lst [])) f (xs.map V.int) [fd, x, la, lr] := (Cl.of hS).go (fun b ob e _ => s3 _ _ e) (fun a ha => .inr (by
    rcases List.mem_cons.mp ha with z | z
    · rw [z]; exact s1.free nfd
    · rcases List.mem_cons.mp z with z | z
      · rw [z]; exact nx
      · rcases List.mem_cons.mp z with z | z
        · rw [z]; exact sx.free nla
        · rw [List.mem_singleton.mp z]; exact sx.free nlr))
  generalize upd H1 fd (.lst []) = H2 at s2 s3 hfd2 hS2 hcl
  refine ⟨fun n σ H' => ∃ s fd la lr i h acc fuel cs cv nv tv, Ply K T.c_Service xs f n σ H' s fd la lr i h acc fuel cs cv nv tv,
    ⟨xs.length - 0, x, fd, la, lr, 0, Oc07.init, [], xs.length, cs, none, none, none, rfl, hcl, hS2, HOK.init, hfd2, hap, Nat.zero_le _, by rw [List.drop_zero]; exact hcs, hib, by rw [List.nil_append]; exact hans, rfl⟩, ?_⟩
  clear hcl hS2 hfd2 hap s3 s2 s1 sx kb nla nlr hS1 nx nd nxd nfd hcs hib hans
  rintro n σ H3 ⟨s, fd, la, lr, i, h, acc, fuel, cs, cv, nv, tv, g⟩
  obtain ⟨rfl, hcl, hS3, hk, hfd, hap, hle, hcs, hib, heq, rfl⟩ := g
  refine ⟨_, rfl, _, rfl, f, _, rfl, .inl hcl.seq, _, _, rfl, rfl, _, rfl, ?_⟩
  rw [List.length_map]
  by_cases hi : i < xs.length
  · have hd : decide (((i : Nat) : Int) < ((xs.length : Nat) : Int)) = true := decide_eq_true (by omega)
    rw [hd]
    obtain ⟨c, b, m, row, y, f', cs', rfl, hcs', hib', t⟩ := turn_of hi hcs hib
    refine iteT ⟨fun σ' H' => ∃ n', n' < xs.length - i ∧ ∃ s fd la lr i h acc fuel cs cv nv tv, Ply K T.c_Service xs f n' σ' H' s fd la lr i h acc fuel cs cv nv tv, fun σ' H' h => h, ?_⟩
    refine ⟨_, rfl, _, rfl, f, _, _, _, rfl, rfl, hcl.seq, atI_nat (ints_at t.wd), ?_⟩
    refine ⟨_, rfl, _, rfl, f, xs, i, c, b, m, rfl, hcl.seq, t.wd, t.num, t.le, fun H4 tt l s4 htt hl => ?_⟩
    refine ⟨tt, _, rfl, SqT.of htt, rfl, _, _, rfl, _, _, rfl, rfl, ?_⟩
    refine ⟨_, rfl, _, rfl, _, rfl, s, la, lr, l, h, c, (xs.drop b).take m, y, rfl, t.is, SqL.of hl, hS3.same s4, hk, fun H5 tl la' lr' hS5 hk5 fr htl => ?_⟩
    have hap3 := mem3 hap
    have hfd4 := s4 _ _ hfd
    have hfd5 := fr.k fd _ hfd4 hap3.1 hap3.2.1 hap3.2.2
    have hrest := rest_cons t h cs'
    rw [hrest] at heq
    have hlen : acc.length + ((Oc07Neutral.out (Oc07.step h y).2).length + 1) ≤ 10000000 := by
      rw [heq] at hbig
      simp only [List.length_append, List.length_cons] at hbig
      omega
    generalize Oc07Neutral.out (Oc07.step h y).2 = out at htl heq hlen
    refine ⟨_, rfl, .inl ⟨rfl, _, SqL.of hfd5⟩, _, rfl, tl, _, rfl, .inl (SqL.of htl), small1, fun u nu => ?_⟩
    have s6 : Same H5 (upd H5 u (.lst [.int ((out.map V.int).length : Nat)])) := same_new nu
    have hu6 : upd H5 u (.lst [.int ((out.map V.int).length : Nat)]) u = some (.lst [.int ((out.map V.int).length : Nat)]) := upd_same
    generalize upd H5 u (.lst [.int ((out.map V.int).length : Nat)]) = H6 at s6 hu6
    refine ⟨_, rfl, u, tl, _, _, rfl, rfl, hu6, s6 _ _ htl, Nat.le_of_lt (Nat.lt_of_le_of_lt (by rw [List.length_map]; show 1 + out.length ≤ 10000000; omega) hbig2), fun v nv => ?_⟩
    have s7 : Same H6 (upd H6 v (.lst ([.int ((out.map V.int).length : Nat)] ++ out.map V.int))) := same_new nv
    have hv7 : upd H6 v (.lst ([.int ((out.map V.int).length : Nat)] ++ out.map V.int)) v = some (.lst ([.int ((out.map V.int).length : Nat)] ++ out.map V.int)) := upd_same
    have s8 := s6.trans s7
    generalize upd H6 v (.lst ([.int ((out.map V.int).length : Nat)] ++ out.map V.int)) = H7 at s7 hv7 s8
    have hfd7 := s8 _ _ hfd5
    refine ⟨fd, v, _, _, rfl, rfl, hfd7, hv7, Nat.le_of_lt (Nat.lt_of_le_of_lt (by rw [List.length_map, List.length_append, List.length_map]; show acc.length + (1 + out.length) ≤ 10000000; omega) hbig2), ?_⟩
    have eacc : acc.map V.int ++ ([V.int ((out.map V.int).length : Nat)] ++ out.map V.int) = (acc ++ ((out.length : Nat) : Int) :: out).map V.int := by
      rw [List.map_append, List.map_cons, List.length_map]
      rfl
    rw [eacc]
    have nfa : fd ≠ la' := by
      rcases fr.a with e | e
      · rw [e]; exact hap3.2.1
      · exact ne_of_none hfd4 e
    have nfr : fd ≠ lr' := by
      rcases fr.r with e | e
      · rw [e]; exact hap3.2.2
      · exact ne_of_none hfd4 e
    have t8 : TS H7 (upd H7 fd (.lst ((acc ++ ((out.length : Nat) : Int) :: out).map V.int))) := TS.lst hfd7
    have hS7 := hS5.same s8
    have hS8 : SvA K T.c_Service (upd H7 fd (.lst ((acc ++ ((out.length : Nat) : Int) :: out).map V.int))) (Oc07.step h y).1 s la' lr' := by
      obtain ⟨⟨dx, e1⟩, e2, e3, e4⟩ := hS7
      exact ⟨⟨dx, by rw [upd_ne (Ne.symm hap3.1)]; exact e1⟩, e2.at stP t8 (upd_ne (Ne.symm nfa)), e3.at stP t8 (upd_ne (Ne.symm nfr)), e4⟩
    have hcl4 := hcl.go (fun b ob e _ => s4 _ _ e) (fun a ha => .inl ha)
    have hcl5 : Cl K H5 f (xs.map V.int) [fd, s, la', lr'] := hcl4.go (fun b ob e n => by
        have n1 : b ≠ s := fun z => n (z ▸ List.mem_cons_of_mem _ List.mem_cons_self)
        have n2 : b ≠ la := fun z => n (z ▸ List.mem_cons_of_mem _ (List.mem_cons_of_mem _ List.mem_cons_self))
        have n3 : b ≠ lr := fun z => n (z ▸ List.mem_cons_of_mem _ (List.mem_cons_of_mem _ (List.mem_cons_of_mem _ List.mem_cons_self)))
        exact fr.k b ob e n1 n2 n3) (fun a ha => by
      rcases List.mem_cons.mp ha with z | z
      · exact .inl (z ▸ List.mem_cons_self)
      · rcases List.mem_cons.mp z with z | z
        · exact .inl (z ▸ List.mem_cons_of_mem _ List.mem_cons_self)
        · rcases List.mem_cons.mp z with z | z
          · rcases fr.a with e | e
            · rw [z, e]; exact .inl (List.mem_cons_of_mem _ (List.mem_cons_of_mem _ List.mem_cons_self))
            · rw [z]; exact .inr e
          · rcases fr.r with e | e
            · rw [List.mem_singleton.mp z, e]; exact .inl (List.mem_cons_of_mem _ (List.mem_cons_of_mem _ (List.mem_cons_of_mem _ List.mem_cons_self)))
            · rw [List.mem_singleton.mp z]; exact .inr e)
    have hcl8 : Cl K (upd H7 fd (.lst ((acc ++ ((out.length : Nat) : Int) :: out).map V.int))) f (xs.map V.int) [fd, s, la', lr'] := hcl5.go (fun b ob e n => by
      have n1 : b ≠ fd := fun z => n (z ▸ List.mem_cons_self)
      rw [upd_ne n1]
      exact s8 _ _ e) (fun a ha => .inl ha)
    refine ⟨xs.length - (b + m), by have := t.gt; omega, s, fd, la', lr', b + m, (Oc07.step h y).1, _, f', cs', _, _, _, rfl, hcl8, hS8, hk5, upd_same, ?_, t.le, hcs', hib', ?_, rfl⟩
    · intro z
      rcases List.mem_cons.mp z with z | z
      · exact hap3.1 z
      · rcases List.mem_cons.mp z with z | z
        · exact nfa z
        · exact nfr (List.mem_singleton.mp z)
    · rw [heq, List.append_assoc]
      rfl
  · have hd : decide (((i : Nat) : Int) < ((xs.length : Nat) : Int)) = false := decide_eq_false (by omega)
    rw [hd]
    refine iteF ⟨_, rfl, q _ fd ?_⟩
    have e : xs.drop i = [] := List.drop_eq_nil_of_le (by omega)
    rw [e] at hcs
    have e2 : cs = [] := by
      have e3 : PyFlat.calls PyOc07.shape fuel [] = some [] := by cases fuel <;> rfl
      rw [e3] at hcs
      exact (Option.some.inj hcs).symm
    rw [heq, e2, rest_nil, List.append_nil]
    exact hfd
end
end Ex
/-! What the top has written. -/
namespace Ex
open PySem PySem.Spec PyProof.Rows L2
open Oc (C)
/-- an error of the class at S is what an except clause of S names -/
theorem exm_self {K : PySem.W.Frag} {S : Addr} (h1 : PySem.W.subIn K (.ref S) (.type "BaseException") = some true) (h2 : PySem.W.isClsIn K S = true) (h3 : PySem.W.typeIn K (.ref S) = some (.type "type")) (h4 : PySem.W.subIn K (.ref S) (.ref S) = some true) :
    PySem.W.exmOne K (.ref S) (.ref S) = some true := by
  have e1 : (PySem.W.subIn K (.ref S) (.type "BaseException") == some true) = true := by rw [h1] <;> rfl
  have e2 : ((PySem.W.clsIn K S).isSome && PySem.W.typeIn K (.ref S) == some (.type "type")) = true := by
    have h2' : (PySem.W.clsIn K S).isSome = true := h2
    rw [h2', h3] <;> rfl
  show (if (PySem.W.subIn K (.ref S) (.type "BaseException") == some true) = true then (if ((PySem.W.clsIn K S).isSome && PySem.W.typeIn K (.ref S) == some (.type "type")) = true then PySem.W.subIn K (.ref S) (.ref S) else none) else none) = some true
  rw [if_pos e1, if_pos e2]
  exact h4
theorem all_mk {P : Program} {w : World} {K : PySem.W.Frag} {h : Heap} {mg : Str → Option Value} {fa : Addr} (X : K.In h) (G : h.Ns mainGlobals mg) (hfa : mg "answers" = some (.ref fa))
    {t_EVERYTHING : Tok} (h_q_EVERYTHING : PySem.W.nsIn K mainGlobals "EVERYTHING" = some (some (.int (0) t_EVERYTHING)))
    {t_NOTHING : Tok} (h_q_NOTHING : PySem.W.nsIn K mainGlobals "NOTHING" = some (some (.int (1) t_NOTHING)))
    {t_NAMED : Tok} (h_q_NAMED : PySem.W.nsIn K mainGlobals "NAMED" = some (some (.int (2) t_NAMED)))
    {t_BOTH : Tok} (h_q_BOTH : PySem.W.nsIn K mainGlobals "BOTH" = some (some (.int (3) t_BOTH)))
    {t_EITHER : Tok} (h_q_EITHER : PySem.W.nsIn K mainGlobals "EITHER" = some (some (.int (4) t_EITHER)))
    {t_NOT : Tok} (h_q_NOT : PySem.W.nsIn K mainGlobals "NOT" = some (some (.int (5) t_NOT)))
    {t_SOME : Tok} (h_q_SOME : PySem.W.nsIn K mainGlobals "SOME" = some (some (.int (6) t_SOME)))
    {t_ALL : Tok} (h_q_ALL : PySem.W.nsIn K mainGlobals "ALL" = some (some (.int (7) t_ALL)))
    {t_NAMES : Tok} (h_q_NAMES : PySem.W.nsIn K mainGlobals "NAMES" = some (some (.int (4) t_NAMES)))
    {t_ROLES : Tok} (h_q_ROLES : PySem.W.nsIn K mainGlobals "ROLES" = some (some (.int (2) t_ROLES)))
    {t_NO_CONCEPTS : Tok} (h_q_NO_CONCEPTS : PySem.W.nsIn K mainGlobals "NO_CONCEPTS" = some (some (.int (-1) t_NO_CONCEPTS)))
    {t_NO_RULE : Tok} (h_q_NO_RULE : PySem.W.nsIn K mainGlobals "NO_RULE" = some (some (.int (-2) t_NO_RULE)))
    {t_EQUAL_RULE : Tok} (h_q_EQUAL_RULE : PySem.W.nsIn K mainGlobals "EQUAL_RULE" = some (some (.int (-4) t_EQUAL_RULE)))
    {t_TOO_MANY : Tok} (h_q_TOO_MANY : PySem.W.nsIn K mainGlobals "TOO_MANY" = some (some (.int (-7) t_TOO_MANY)))
    {t_MOST_AXIOMS : Tok} (h_q_MOST_AXIOMS : PySem.W.nsIn K mainGlobals "MOST_AXIOMS" = some (some (.int (3) t_MOST_AXIOMS)))
    {t_MOST_RULES : Tok} (h_q_MOST_RULES : PySem.W.nsIn K mainGlobals "MOST_RULES" = some (some (.int (4) t_MOST_RULES)))
    {t_MOST_ATOMS : Tok} (h_q_MOST_ATOMS : PySem.W.nsIn K mainGlobals "MOST_ATOMS" = some (some (.int (4) t_MOST_ATOMS)))
    {t_BEGINS : Tok} (h_q_BEGINS : PySem.W.nsIn K mainGlobals "BEGINS" = some (some (.int (0) t_BEGINS)))
    {t_LINE : Tok} (h_q_LINE : PySem.W.nsIn K mainGlobals "LINE" = some (some (.int (1) t_LINE)))
    {t_RULE : Tok} (h_q_RULE : PySem.W.nsIn K mainGlobals "RULE" = some (some (.int (2) t_RULE)))
    {t_NORMALLY : Tok} (h_q_NORMALLY : PySem.W.nsIn K mainGlobals "NORMALLY" = some (some (.int (3) t_NORMALLY)))
    {t_ALWAYS : Tok} (h_q_ALWAYS : PySem.W.nsIn K mainGlobals "ALWAYS" = some (some (.int (4) t_ALWAYS)))
    {t_RANK : Tok} (h_q_RANK : PySem.W.nsIn K mainGlobals "RANK" = some (some (.int (5) t_RANK)))
    {t_DROP : Tok} (h_q_DROP : PySem.W.nsIn K mainGlobals "DROP" = some (some (.int (7) t_DROP)))
     (h_z_len : PySem.W.nsIn K mainGlobals "len" = some none)
     (h_z_list : PySem.W.nsIn K mainGlobals "list" = some none)
     (h_z_all : PySem.W.nsIn K mainGlobals "all" = some none)
     (h_z_any : PySem.W.nsIn K mainGlobals "any" = some none)
     (h_z_zip : PySem.W.nsIn K mainGlobals "zip" = some none)
     (h_z_range : PySem.W.nsIn K mainGlobals "range" = some none)
     (h_z_enumerate : PySem.W.nsIn K mainGlobals "enumerate" = some none)
     (h_z_int : PySem.W.nsIn K mainGlobals "int" = some none)
     (h_z_ValueError : PySem.W.nsIn K mainGlobals "ValueError" = some none)
    {none_ : Addr} (h_g_none_ : PySem.W.nsIn K mainGlobals "NONE" = some (some (.ref none_)))
    {od_none_ : Option Addr} {sl_none_ : Array (Option Value)} {n_none_ : Nat} {tnone_1 : Tok} (h_l_none_ : K.lookup none_ = some ⟨.type "tuple", od_none_, .seq #[.int 1 tnone_1] n_none_, sl_none_⟩)
    {with_ : Addr} (h_g_with_ : PySem.W.nsIn K mainGlobals "WITH_LIST" = some (some (.ref with_)))
    {od_with_ : Option Addr} {sl_with_ : Array (Option Value)} {n_with_ : Nat} {twith_1 twith_2 twith_3 twith_4 twith_5 : Tok} (h_l_with_ : K.lookup with_ = some ⟨.type "tuple", od_with_, .seq #[.int 1 twith_1, .int 2 twith_2, .int 3 twith_3, .int 4 twith_4, .int 5 twith_5] n_with_, sl_with_⟩)
    {c_Atoms : Addr} (h_g_Atoms : PySem.W.nsIn K mainGlobals "Atoms" = some (some (.ref c_Atoms)))
     (h_pg_Atoms : PySem.W.plainGet K c_Atoms Str.empty = true)
     (h_hd_Atoms : PySem.W.hasDictIn K c_Atoms = true)
     (h_po_Atoms : PySem.W.plainOver K c_Atoms = true)
     (h_sa_Atoms : PySem.W.findIn K (.ref c_Atoms) "__setattr__" = some (some (.builtin "object.__setattr__")))
     (h_mk_Atoms : PySem.W.makesIn K c_Atoms = true)
     (h_kc_Atoms : PySem.W.keepIn K (.ref c_Atoms) = true)
     (h_na_Atoms_own : PySem.W.findIn K (.ref c_Atoms) "own" = some none)
    {c_Models : Addr} (h_g_Models : PySem.W.nsIn K mainGlobals "Models" = some (some (.ref c_Models)))
     (h_pg_Models : PySem.W.plainGet K c_Models Str.empty = true)
     (h_hd_Models : PySem.W.hasDictIn K c_Models = true)
     (h_po_Models : PySem.W.plainOver K c_Models = true)
     (h_sa_Models : PySem.W.findIn K (.ref c_Models) "__setattr__" = some (some (.builtin "object.__setattr__")))
     (h_mk_Models : PySem.W.makesIn K c_Models = true)
     (h_kc_Models : PySem.W.keepIn K (.ref c_Models) = true)
     (h_na_Models_atoms : PySem.W.findIn K (.ref c_Models) "atoms" = some none)
     (h_na_Models_kinds : PySem.W.findIn K (.ref c_Models) "kinds" = some none)
    {c_Ranking : Addr} (h_g_Ranking : PySem.W.nsIn K mainGlobals "Ranking" = some (some (.ref c_Ranking)))
     (h_pg_Ranking : PySem.W.plainGet K c_Ranking Str.empty = true)
     (h_hd_Ranking : PySem.W.hasDictIn K c_Ranking = true)
     (h_po_Ranking : PySem.W.plainOver K c_Ranking = true)
     (h_sa_Ranking : PySem.W.findIn K (.ref c_Ranking) "__setattr__" = some (some (.builtin "object.__setattr__")))
     (h_mk_Ranking : PySem.W.makesIn K c_Ranking = true)
     (h_kc_Ranking : PySem.W.keepIn K (.ref c_Ranking) = true)
     (h_na_Ranking_models : PySem.W.findIn K (.ref c_Ranking) "models" = some none)
     (h_na_Ranking_ranks : PySem.W.findIn K (.ref c_Ranking) "ranks" = some none)
    {c_Service : Addr} (h_g_Service : PySem.W.nsIn K mainGlobals "Service" = some (some (.ref c_Service)))
     (h_pg_Service : PySem.W.plainGet K c_Service Str.empty = true)
     (h_hd_Service : PySem.W.hasDictIn K c_Service = true)
     (h_po_Service : PySem.W.plainOver K c_Service = true)
     (h_sa_Service : PySem.W.findIn K (.ref c_Service) "__setattr__" = some (some (.builtin "object.__setattr__")))
     (h_mk_Service : PySem.W.makesIn K c_Service = true)
     (h_kc_Service : PySem.W.keepIn K (.ref c_Service) = true)
     (h_na_Service_axioms : PySem.W.findIn K (.ref c_Service) "axioms" = some none)
     (h_na_Service_rules : PySem.W.findIn K (.ref c_Service) "rules" = some none)
     (h_ne_AM : c_Atoms ≠ c_Models)
     (h_ne_AR : c_Ranking ≠ c_Atoms)
     (h_ne_MR : c_Ranking ≠ c_Models)
    {c_NoC : Addr} (h_gN : PySem.W.nsIn K mainGlobals "NoConcept" = some (some (.ref c_NoC)))
     (h_xN : PySem.W.excIn K c_NoC [.type "ValueError", .type "Exception", .type "BaseException", .type "object"] "ValueError.__new__" = true)
     (h_kN : PySem.W.keepIn K (.ref c_NoC) = true)
     (h_bN : PySem.W.subIn K (.ref c_NoC) (.type "BaseException") = some true)
     (h_tN : PySem.W.typeIn K (.ref c_NoC) = some (.type "type"))
     (h_iN : PySem.W.isClsIn K c_NoC = true)
     (h_sN : PySem.W.subIn K (.ref c_NoC) (.ref c_NoC) = some true)
    {c_Ref : Addr} (h_gR : PySem.W.nsIn K mainGlobals "Refused" = some (some (.ref c_Ref)))
    {nm_R q_R : Str} {N_R : Addr} {bs_R : List Value} {sn_R : List Str} {sub_R : List Value} {ab_R : Bool} {col_R : Option Bool} {dd_R : Option Addr} {m0 m1 m2 m3 m5 : Option Value} (h_xL : K.lookup c_Ref = some (excClassObj nm_R q_R c_Ref N_R bs_R [.type "ValueError", .type "Exception", .type "BaseException", .type "object"] true sn_R sub_R ab_R col_R dd_R m0 m1 m2 m3 m5 "ValueError.__new__"))
     (h_saR : PySem.W.findIn K (.ref c_Ref) "__setattr__" = some (some (.builtin "object.__setattr__")))
     (h_gaR : PySem.W.findIn K (.ref c_Ref) "__getattribute__" = some (some (.builtin "BaseException.__getattribute__")))
     (h_ggR : PySem.W.findIn K (.ref c_Ref) "__getattr__" = some none)
     (h_nR : PySem.W.findIn K (.ref c_Ref) "code" = some none)
     (h_kR : PySem.W.keepIn K (.ref c_Ref) = true)
     (h_bR : PySem.W.subIn K (.ref c_Ref) (.type "BaseException") = some true)
     (h_tR : PySem.W.typeIn K (.ref c_Ref) = some (.type "type"))
     (h_hdR : PySem.W.hasDictIn K c_Ref = true)
     (h_isR : PySem.W.isClsIn K c_Ref = true)
     (h_sR : PySem.W.subIn K (.ref c_Ref) (.ref c_Ref) = some true)
     (h_vV : PySem.W.findCls K (.type "ValueError") (.type "type") "__init__" = some (.val (.builtin "ValueError.__init__")))
    {a_numAt : Addr} {od_numAt an_numAt : Option Addr} {sl_numAt : Array (Option Value)} {oc_numAt kV_numAt dc_numAt pm_numAt cd_numAt ct_numAt : Value} (h_g_numAt : PySem.W.nsIn K mainGlobals "number_at" = some (some (.ref a_numAt)))
     (h_l_numAt : K.lookup a_numAt = some ⟨oc_numAt, od_numAt, .func (PySem.W.fnOf "number_at" "number_at" (defArgs s_numAt) (defBody s_numAt) (defScope s_numAt) .none kV_numAt dc_numAt pm_numAt an_numAt cd_numAt ct_numAt), sl_numAt⟩)
     (h_d_numAt : PySem.W.codeIn K cd_numAt "number_at" = true)
     (h_k_numAt : PySem.W.keepIn K (.ref a_numAt) = true)
    {a_numBe : Addr} {od_numBe an_numBe : Option Addr} {sl_numBe : Array (Option Value)} {oc_numBe kV_numBe dc_numBe pm_numBe cd_numBe ct_numBe : Value} (h_g_numBe : PySem.W.nsIn K mainGlobals "number_below" = some (some (.ref a_numBe)))
     (h_l_numBe : K.lookup a_numBe = some ⟨oc_numBe, od_numBe, .func (PySem.W.fnOf "number_below" "number_below" (defArgs s_numBe) (defBody s_numBe) (defScope s_numBe) .none kV_numBe dc_numBe pm_numBe an_numBe cd_numBe ct_numBe), sl_numBe⟩)
     (h_d_numBe : PySem.W.codeIn K cd_numBe "number_below" = true)
     (h_k_numBe : PySem.W.keepIn K (.ref a_numBe) = true)
    {a_rdC : Addr} {od_rdC an_rdC : Option Addr} {sl_rdC : Array (Option Value)} {oc_rdC kV_rdC dc_rdC pm_rdC cd_rdC ct_rdC : Value} (h_g_rdC : PySem.W.nsIn K mainGlobals "read_concept" = some (some (.ref a_rdC)))
     (h_l_rdC : K.lookup a_rdC = some ⟨oc_rdC, od_rdC, .func (PySem.W.fnOf "read_concept" "read_concept" (defArgs s_rdC) (defBody s_rdC) (defScope s_rdC) .none kV_rdC dc_rdC pm_rdC an_rdC cd_rdC ct_rdC), sl_rdC⟩)
     (h_d_rdC : PySem.W.codeIn K cd_rdC "read_concept" = true)
     (h_k_rdC : PySem.W.keepIn K (.ref a_rdC) = true)
    {a_rdCs : Addr} {od_rdCs an_rdCs : Option Addr} {sl_rdCs : Array (Option Value)} {oc_rdCs kV_rdCs dc_rdCs pm_rdCs cd_rdCs ct_rdCs : Value} (h_g_rdCs : PySem.W.nsIn K mainGlobals "read_concepts" = some (some (.ref a_rdCs)))
     (h_l_rdCs : K.lookup a_rdCs = some ⟨oc_rdCs, od_rdCs, .func (PySem.W.fnOf "read_concepts" "read_concepts" (defArgs s_rdCs) (defBody s_rdCs) (defScope s_rdCs) .none kV_rdCs dc_rdCs pm_rdCs an_rdCs cd_rdCs ct_rdCs), sl_rdCs⟩)
     (h_d_rdCs : PySem.W.codeIn K cd_rdCs "read_concepts" = true)
     (h_k_rdCs : PySem.W.keepIn K (.ref a_rdCs) = true)
    {a_isAt : Addr} {od_isAt an_isAt : Option Addr} {sl_isAt : Array (Option Value)} {oc_isAt kV_isAt dc_isAt pm_isAt cd_isAt ct_isAt : Value} (h_g_isAt : PySem.W.nsIn K mainGlobals "is_atom" = some (some (.ref a_isAt)))
     (h_l_isAt : K.lookup a_isAt = some ⟨oc_isAt, od_isAt, .func (PySem.W.fnOf "is_atom" "is_atom" (defArgs s_isAt) (defBody s_isAt) (defScope s_isAt) .none kV_isAt dc_isAt pm_isAt an_isAt cd_isAt ct_isAt), sl_isAt⟩)
     (h_d_isAt : PySem.W.codeIn K cd_isAt "is_atom" = true)
     (h_k_isAt : PySem.W.keepIn K (.ref a_isAt) = true)
    {a_parts : Addr} {od_parts an_parts : Option Addr} {sl_parts : Array (Option Value)} {oc_parts kV_parts dc_parts pm_parts cd_parts ct_parts : Value} (h_g_parts : PySem.W.nsIn K mainGlobals "parts_of" = some (some (.ref a_parts)))
     (h_l_parts : K.lookup a_parts = some ⟨oc_parts, od_parts, .func (PySem.W.fnOf "parts_of" "parts_of" (defArgs s_parts) (defBody s_parts) (defScope s_parts) .none kV_parts dc_parts pm_parts an_parts cd_parts ct_parts), sl_parts⟩)
     (h_d_parts : PySem.W.codeIn K cd_parts "parts_of" = true)
     (h_k_parts : PySem.W.keepIn K (.ref a_parts) = true)
    {a_allAt : Addr} {od_allAt an_allAt : Option Addr} {sl_allAt : Array (Option Value)} {oc_allAt kV_allAt dc_allAt pm_allAt cd_allAt ct_allAt : Value} (h_g_allAt : PySem.W.nsIn K mainGlobals "all_atoms" = some (some (.ref a_allAt)))
     (h_l_allAt : K.lookup a_allAt = some ⟨oc_allAt, od_allAt, .func (PySem.W.fnOf "all_atoms" "all_atoms" (defArgs s_allAt) (defBody s_allAt) (defScope s_allAt) .none kV_allAt dc_allAt pm_allAt an_allAt cd_allAt ct_allAt), sl_allAt⟩)
     (h_d_allAt : PySem.W.codeIn K cd_allAt "all_atoms" = true)
     (h_k_allAt : PySem.W.keepIn K (.ref a_allAt) = true)
    {a_atI : Addr} {od_atI an_atI : Option Addr} {sl_atI : Array (Option Value)} {oc_atI kV_atI dc_atI pm_atI cd_atI ct_atI : Value} (h_m_atI : PySem.W.findIn K (.ref c_Atoms) "__init__" = some (some (.ref a_atI)))
     (h_i_atI : PySem.W.isFn K (.ref a_atI) = true)
     (h_l_atI : K.lookup a_atI = some ⟨oc_atI, od_atI, .func (PySem.W.fnOf "__init__" "Atoms.__init__" (defArgs s_atI) (defBody s_atI) (defScope s_atI) .none kV_atI dc_atI pm_atI an_atI cd_atI ct_atI), sl_atI⟩)
     (h_d_atI : PySem.W.codeIn K cd_atI "Atoms.__init__" = true)
     (h_k_atI : PySem.W.keepIn K (.ref a_atI) = true)
    {a_has : Addr} {od_has an_has : Option Addr} {sl_has : Array (Option Value)} {oc_has kV_has dc_has pm_has cd_has ct_has : Value} (h_m_has : PySem.W.findIn K (.ref c_Atoms) "has" = some (some (.ref a_has)))
     (h_i_has : PySem.W.isFn K (.ref a_has) = true)
     (h_l_has : K.lookup a_has = some ⟨oc_has, od_has, .func (PySem.W.fnOf "has" "Atoms.has" (defArgs s_has) (defBody s_has) (defScope s_has) .none kV_has dc_has pm_has an_has cd_has ct_has), sl_has⟩)
     (h_d_has : PySem.W.codeIn K cd_has "Atoms.has" = true)
     (h_k_has : PySem.W.keepIn K (.ref a_has) = true)
    {a_sat : Addr} {od_sat an_sat : Option Addr} {sl_sat : Array (Option Value)} {oc_sat kV_sat dc_sat pm_sat cd_sat ct_sat : Value} (h_m_sat : PySem.W.findIn K (.ref c_Atoms) "satisfies" = some (some (.ref a_sat)))
     (h_i_sat : PySem.W.isFn K (.ref a_sat) = true)
     (h_l_sat : K.lookup a_sat = some ⟨oc_sat, od_sat, .func (PySem.W.fnOf "satisfies" "Atoms.satisfies" (defArgs s_sat) (defBody s_sat) (defScope s_sat) .none kV_sat dc_sat pm_sat an_sat cd_sat ct_sat), sl_sat⟩)
     (h_d_sat : PySem.W.codeIn K cd_sat "Atoms.satisfies" = true)
     (h_k_sat : PySem.W.keepIn K (.ref a_sat) = true)
    {a_every : Addr} {od_every an_every : Option Addr} {sl_every : Array (Option Value)} {oc_every kV_every dc_every pm_every cd_every ct_every : Value} (h_m_every : PySem.W.findIn K (.ref c_Atoms) "every" = some (some (.ref a_every)))
     (h_i_every : PySem.W.isFn K (.ref a_every) = true)
     (h_l_every : K.lookup a_every = some ⟨oc_every, od_every, .func (PySem.W.fnOf "every" "Atoms.every" (defArgs s_every) (defBody s_every) (defScope s_every) .none kV_every dc_every pm_every an_every cd_every ct_every), sl_every⟩)
     (h_d_every : PySem.W.codeIn K cd_every "Atoms.every" = true)
     (h_k_every : PySem.W.keepIn K (.ref a_every) = true)
    {a_mayRel : Addr} {od_mayRel an_mayRel : Option Addr} {sl_mayRel : Array (Option Value)} {oc_mayRel kV_mayRel dc_mayRel pm_mayRel cd_mayRel ct_mayRel : Value} (h_m_mayRel : PySem.W.findIn K (.ref c_Atoms) "may_relate" = some (some (.ref a_mayRel)))
     (h_i_mayRel : PySem.W.isFn K (.ref a_mayRel) = true)
     (h_l_mayRel : K.lookup a_mayRel = some ⟨oc_mayRel, od_mayRel, .func (PySem.W.fnOf "may_relate" "Atoms.may_relate" (defArgs s_mayRel) (defBody s_mayRel) (defScope s_mayRel) .none kV_mayRel dc_mayRel pm_mayRel an_mayRel cd_mayRel ct_mayRel), sl_mayRel⟩)
     (h_d_mayRel : PySem.W.codeIn K cd_mayRel "Atoms.may_relate" = true)
     (h_k_mayRel : PySem.W.keepIn K (.ref a_mayRel) = true)
    {a_shown : Addr} {od_shown an_shown : Option Addr} {sl_shown : Array (Option Value)} {oc_shown kV_shown dc_shown pm_shown cd_shown ct_shown : Value} (h_m_shown : PySem.W.findIn K (.ref c_Atoms) "is_shown" = some (some (.ref a_shown)))
     (h_i_shown : PySem.W.isFn K (.ref a_shown) = true)
     (h_l_shown : K.lookup a_shown = some ⟨oc_shown, od_shown, .func (PySem.W.fnOf "is_shown" "Atoms.is_shown" (defArgs s_shown) (defBody s_shown) (defScope s_shown) .none kV_shown dc_shown pm_shown an_shown cd_shown ct_shown), sl_shown⟩)
     (h_d_shown : PySem.W.codeIn K cd_shown "Atoms.is_shown" = true)
     (h_k_shown : PySem.W.keepIn K (.ref a_shown) = true)
    {a_poss : Addr} {od_poss an_poss : Option Addr} {sl_poss : Array (Option Value)} {oc_poss kV_poss dc_poss pm_poss cd_poss ct_poss : Value} (h_m_poss : PySem.W.findIn K (.ref c_Atoms) "is_possible" = some (some (.ref a_poss)))
     (h_i_poss : PySem.W.isFn K (.ref a_poss) = true)
     (h_l_poss : K.lookup a_poss = some ⟨oc_poss, od_poss, .func (PySem.W.fnOf "is_possible" "Atoms.is_possible" (defArgs s_poss) (defBody s_poss) (defScope s_poss) .none kV_poss dc_poss pm_poss an_poss cd_poss ct_poss), sl_poss⟩)
     (h_d_poss : PySem.W.codeIn K cd_poss "Atoms.is_possible" = true)
     (h_k_poss : PySem.W.keepIn K (.ref a_poss) = true)
    {a_possib : Addr} {od_possib an_possib : Option Addr} {sl_possib : Array (Option Value)} {oc_possib kV_possib dc_possib pm_possib cd_possib ct_possib : Value} (h_m_possib : PySem.W.findIn K (.ref c_Atoms) "possible" = some (some (.ref a_possib)))
     (h_i_possib : PySem.W.isFn K (.ref a_possib) = true)
     (h_l_possib : K.lookup a_possib = some ⟨oc_possib, od_possib, .func (PySem.W.fnOf "possible" "Atoms.possible" (defArgs s_possib) (defBody s_possib) (defScope s_possib) .none kV_possib dc_possib pm_possib an_possib cd_possib ct_possib), sl_possib⟩)
     (h_d_possib : PySem.W.codeIn K cd_possib "Atoms.possible" = true)
     (h_k_possib : PySem.W.keepIn K (.ref a_possib) = true)
    {a_moI : Addr} {od_moI an_moI : Option Addr} {sl_moI : Array (Option Value)} {oc_moI kV_moI dc_moI pm_moI cd_moI ct_moI : Value} (h_m_moI : PySem.W.findIn K (.ref c_Models) "__init__" = some (some (.ref a_moI)))
     (h_i_moI : PySem.W.isFn K (.ref a_moI) = true)
     (h_l_moI : K.lookup a_moI = some ⟨oc_moI, od_moI, .func (PySem.W.fnOf "__init__" "Models.__init__" (defArgs s_moI) (defBody s_moI) (defScope s_moI) .none kV_moI dc_moI pm_moI an_moI cd_moI ct_moI), sl_moI⟩)
     (h_d_moI : PySem.W.codeIn K cd_moI "Models.__init__" = true)
     (h_k_moI : PySem.W.keepIn K (.ref a_moI) = true)
    {a_some : Addr} {od_some an_some : Option Addr} {sl_some : Array (Option Value)} {oc_some kV_some dc_some pm_some cd_some ct_some : Value} (h_m_some : PySem.W.findIn K (.ref c_Models) "some_have" = some (some (.ref a_some)))
     (h_i_some : PySem.W.isFn K (.ref a_some) = true)
     (h_l_some : K.lookup a_some = some ⟨oc_some, od_some, .func (PySem.W.fnOf "some_have" "Models.some_have" (defArgs s_some) (defBody s_some) (defScope s_some) .none kV_some dc_some pm_some an_some cd_some ct_some), sl_some⟩)
     (h_d_some : PySem.W.codeIn K cd_some "Models.some_have" = true)
     (h_k_some : PySem.W.keepIn K (.ref a_some) = true)
    {a_exc : Addr} {od_exc an_exc : Option Addr} {sl_exc : Array (Option Value)} {oc_exc kV_exc dc_exc pm_exc cd_exc ct_exc : Value} (h_m_exc : PySem.W.findIn K (.ref c_Models) "is_exceptional" = some (some (.ref a_exc)))
     (h_i_exc : PySem.W.isFn K (.ref a_exc) = true)
     (h_l_exc : K.lookup a_exc = some ⟨oc_exc, od_exc, .func (PySem.W.fnOf "is_exceptional" "Models.is_exceptional" (defArgs s_exc) (defBody s_exc) (defScope s_exc) .none kV_exc dc_exc pm_exc an_exc cd_exc ct_exc), sl_exc⟩)
     (h_d_exc : PySem.W.codeIn K cd_exc "Models.is_exceptional" = true)
     (h_k_exc : PySem.W.keepIn K (.ref a_exc) = true)
    {a_follow : Addr} {od_follow an_follow : Option Addr} {sl_follow : Array (Option Value)} {oc_follow kV_follow dc_follow pm_follow cd_follow ct_follow : Value} (h_m_follow : PySem.W.findIn K (.ref c_Models) "does_follow" = some (some (.ref a_follow)))
     (h_i_follow : PySem.W.isFn K (.ref a_follow) = true)
     (h_l_follow : K.lookup a_follow = some ⟨oc_follow, od_follow, .func (PySem.W.fnOf "does_follow" "Models.does_follow" (defArgs s_follow) (defBody s_follow) (defScope s_follow) .none kV_follow dc_follow pm_follow an_follow cd_follow ct_follow), sl_follow⟩)
     (h_d_follow : PySem.W.codeIn K cd_follow "Models.does_follow" = true)
     (h_k_follow : PySem.W.keepIn K (.ref a_follow) = true)
    {a_next : Addr} {od_next an_next : Option Addr} {sl_next : Array (Option Value)} {oc_next kV_next dc_next pm_next cd_next ct_next : Value} (h_m_next : PySem.W.findIn K (.ref c_Models) "next_rank" = some (some (.ref a_next)))
     (h_i_next : PySem.W.isFn K (.ref a_next) = true)
     (h_l_next : K.lookup a_next = some ⟨oc_next, od_next, .func (PySem.W.fnOf "next_rank" "Models.next_rank" (defArgs s_next) (defBody s_next) (defScope s_next) .none kV_next dc_next pm_next an_next cd_next ct_next), sl_next⟩)
     (h_d_next : PySem.W.codeIn K cd_next "Models.next_rank" = true)
     (h_k_next : PySem.W.keepIn K (.ref a_next) = true)
    {a_until : Addr} {od_until an_until : Option Addr} {sl_until : Array (Option Value)} {oc_until kV_until dc_until pm_until cd_until ct_until : Value} (h_g_until : PySem.W.nsIn K mainGlobals "ranks_until" = some (some (.ref a_until)))
     (h_l_until : K.lookup a_until = some ⟨oc_until, od_until, .func (PySem.W.fnOf "ranks_until" "ranks_until" (defArgs s_until) (defBody s_until) (defScope s_until) .none kV_until dc_until pm_until an_until cd_until ct_until), sl_until⟩)
     (h_d_until : PySem.W.codeIn K cd_until "ranks_until" = true)
     (h_k_until : PySem.W.keepIn K (.ref a_until) = true)
    {a_raI : Addr} {od_raI an_raI : Option Addr} {sl_raI : Array (Option Value)} {oc_raI kV_raI dc_raI pm_raI cd_raI ct_raI : Value} (h_m_raI : PySem.W.findIn K (.ref c_Ranking) "__init__" = some (some (.ref a_raI)))
     (h_i_raI : PySem.W.isFn K (.ref a_raI) = true)
     (h_l_raI : K.lookup a_raI = some ⟨oc_raI, od_raI, .func (PySem.W.fnOf "__init__" "Ranking.__init__" (defArgs s_raI) (defBody s_raI) (defScope s_raI) .none kV_raI dc_raI pm_raI an_raI cd_raI ct_raI), sl_raI⟩)
     (h_d_raI : PySem.W.codeIn K cd_raI "Ranking.__init__" = true)
     (h_k_raI : PySem.W.keepIn K (.ref a_raI) = true)
    {a_rankOf : Addr} {od_rankOf an_rankOf : Option Addr} {sl_rankOf : Array (Option Value)} {oc_rankOf kV_rankOf dc_rankOf pm_rankOf cd_rankOf ct_rankOf : Value} (h_m_rankOf : PySem.W.findIn K (.ref c_Ranking) "rank_of" = some (some (.ref a_rankOf)))
     (h_i_rankOf : PySem.W.isFn K (.ref a_rankOf) = true)
     (h_l_rankOf : K.lookup a_rankOf = some ⟨oc_rankOf, od_rankOf, .func (PySem.W.fnOf "rank_of" "Ranking.rank_of" (defArgs s_rankOf) (defBody s_rankOf) (defScope s_rankOf) .none kV_rankOf dc_rankOf pm_rankOf an_rankOf cd_rankOf ct_rankOf), sl_rankOf⟩)
     (h_d_rankOf : PySem.W.codeIn K cd_rankOf "Ranking.rank_of" = true)
     (h_k_rankOf : PySem.W.keepIn K (.ref a_rankOf) = true)
    {a_rulesFor : Addr} {od_rulesFor an_rulesFor : Option Addr} {sl_rulesFor : Array (Option Value)} {oc_rulesFor kV_rulesFor dc_rulesFor pm_rulesFor cd_rulesFor ct_rulesFor : Value} (h_m_rulesFor : PySem.W.findIn K (.ref c_Ranking) "rules_for" = some (some (.ref a_rulesFor)))
     (h_i_rulesFor : PySem.W.isFn K (.ref a_rulesFor) = true)
     (h_l_rulesFor : K.lookup a_rulesFor = some ⟨oc_rulesFor, od_rulesFor, .func (PySem.W.fnOf "rules_for" "Ranking.rules_for" (defArgs s_rulesFor) (defBody s_rulesFor) (defScope s_rulesFor) .none kV_rulesFor dc_rulesFor pm_rulesFor an_rulesFor cd_rulesFor ct_rulesFor), sl_rulesFor⟩)
     (h_d_rulesFor : PySem.W.codeIn K cd_rulesFor "Ranking.rules_for" = true)
     (h_k_rulesFor : PySem.W.keepIn K (.ref a_rulesFor) = true)
    {a_isNor : Addr} {od_isNor an_isNor : Option Addr} {sl_isNor : Array (Option Value)} {oc_isNor kV_isNor dc_isNor pm_isNor cd_isNor ct_isNor : Value} (h_m_isNor : PySem.W.findIn K (.ref c_Ranking) "is_normal" = some (some (.ref a_isNor)))
     (h_i_isNor : PySem.W.isFn K (.ref a_isNor) = true)
     (h_l_isNor : K.lookup a_isNor = some ⟨oc_isNor, od_isNor, .func (PySem.W.fnOf "is_normal" "Ranking.is_normal" (defArgs s_isNor) (defBody s_isNor) (defScope s_isNor) .none kV_isNor dc_isNor pm_isNor an_isNor cd_isNor ct_isNor), sl_isNor⟩)
     (h_d_isNor : PySem.W.codeIn K cd_isNor "Ranking.is_normal" = true)
     (h_k_isNor : PySem.W.keepIn K (.ref a_isNor) = true)
    {a_isAlw : Addr} {od_isAlw an_isAlw : Option Addr} {sl_isAlw : Array (Option Value)} {oc_isAlw kV_isAlw dc_isAlw pm_isAlw cd_isAlw ct_isAlw : Value} (h_m_isAlw : PySem.W.findIn K (.ref c_Ranking) "is_always" = some (some (.ref a_isAlw)))
     (h_i_isAlw : PySem.W.isFn K (.ref a_isAlw) = true)
     (h_l_isAlw : K.lookup a_isAlw = some ⟨oc_isAlw, od_isAlw, .func (PySem.W.fnOf "is_always" "Ranking.is_always" (defArgs s_isAlw) (defBody s_isAlw) (defScope s_isAlw) .none kV_isAlw dc_isAlw pm_isAlw an_isAlw cd_isAlw ct_isAlw), sl_isAlw⟩)
     (h_d_isAlw : PySem.W.codeIn K cd_isAlw "Ranking.is_always" = true)
     (h_k_isAlw : PySem.W.keepIn K (.ref a_isAlw) = true)
    {a_manyR : Addr} {od_manyR an_manyR : Option Addr} {sl_manyR : Array (Option Value)} {oc_manyR kV_manyR dc_manyR pm_manyR cd_manyR ct_manyR : Value} (h_m_manyR : PySem.W.findIn K (.ref c_Ranking) "many_ranks" = some (some (.ref a_manyR)))
     (h_i_manyR : PySem.W.isFn K (.ref a_manyR) = true)
     (h_l_manyR : K.lookup a_manyR = some ⟨oc_manyR, od_manyR, .func (PySem.W.fnOf "many_ranks" "Ranking.many_ranks" (defArgs s_manyR) (defBody s_manyR) (defScope s_manyR) .none kV_manyR dc_manyR pm_manyR an_manyR cd_manyR ct_manyR), sl_manyR⟩)
     (h_d_manyR : PySem.W.codeIn K cd_manyR "Ranking.many_ranks" = true)
     (h_k_manyR : PySem.W.keepIn K (.ref a_manyR) = true)
    {a_reI : Addr} {od_reI an_reI : Option Addr} {sl_reI : Array (Option Value)} {oc_reI kV_reI dc_reI pm_reI cd_reI ct_reI : Value} (h_m_reI : PySem.W.findIn K (.ref c_Ref) "__init__" = some (some (.ref a_reI)))
     (h_i_reI : PySem.W.typeIn K (.ref a_reI) = some (.type "function"))
     (h_l_reI : K.lookup a_reI = some ⟨oc_reI, od_reI, .func (PySem.W.fnOf "__init__" "Refused.__init__" (defArgs s_reI) (defBody s_reI) (defScope s_reI) .none kV_reI dc_reI pm_reI an_reI cd_reI ct_reI), sl_reI⟩)
     (h_d_reI : PySem.W.codeIn K cd_reI "Refused.__init__" = true)
     (h_k_reI : PySem.W.keepIn K (.ref a_reI) = true)
    {a_toldC : Addr} {od_toldC an_toldC : Option Addr} {sl_toldC : Array (Option Value)} {oc_toldC kV_toldC dc_toldC pm_toldC cd_toldC ct_toldC : Value} (h_g_toldC : PySem.W.nsIn K mainGlobals "told_concepts" = some (some (.ref a_toldC)))
     (h_l_toldC : K.lookup a_toldC = some ⟨oc_toldC, od_toldC, .func (PySem.W.fnOf "told_concepts" "told_concepts" (defArgs s_toldC) (defBody s_toldC) (defScope s_toldC) .none kV_toldC dc_toldC pm_toldC an_toldC cd_toldC ct_toldC), sl_toldC⟩)
     (h_d_toldC : PySem.W.codeIn K cd_toldC "told_concepts" = true)
     (h_k_toldC : PySem.W.keepIn K (.ref a_toldC) = true)
    {a_seI : Addr} {od_seI an_seI : Option Addr} {sl_seI : Array (Option Value)} {oc_seI kV_seI dc_seI pm_seI cd_seI ct_seI : Value} (h_m_seI : PySem.W.findIn K (.ref c_Service) "__init__" = some (some (.ref a_seI)))
     (h_i_seI : PySem.W.isFn K (.ref a_seI) = true)
     (h_l_seI : K.lookup a_seI = some ⟨oc_seI, od_seI, .func (PySem.W.fnOf "__init__" "Service.__init__" (defArgs s_seI) (defBody s_seI) (defScope s_seI) .none kV_seI dc_seI pm_seI an_seI cd_seI ct_seI), sl_seI⟩)
     (h_d_seI : PySem.W.codeIn K cd_seI "Service.__init__" = true)
     (h_k_seI : PySem.W.keepIn K (.ref a_seI) = true)
    {a_atWith : Addr} {od_atWith an_atWith : Option Addr} {sl_atWith : Array (Option Value)} {oc_atWith kV_atWith dc_atWith pm_atWith cd_atWith ct_atWith : Value} (h_m_atWith : PySem.W.findIn K (.ref c_Service) "atoms_with" = some (some (.ref a_atWith)))
     (h_i_atWith : PySem.W.isFn K (.ref a_atWith) = true)
     (h_l_atWith : K.lookup a_atWith = some ⟨oc_atWith, od_atWith, .func (PySem.W.fnOf "atoms_with" "Service.atoms_with" (defArgs s_atWith) (defBody s_atWith) (defScope s_atWith) .none kV_atWith dc_atWith pm_atWith an_atWith cd_atWith ct_atWith), sl_atWith⟩)
     (h_d_atWith : PySem.W.codeIn K cd_atWith "Service.atoms_with" = true)
     (h_k_atWith : PySem.W.keepIn K (.ref a_atWith) = true)
    {a_ranking : Addr} {od_ranking an_ranking : Option Addr} {sl_ranking : Array (Option Value)} {oc_ranking kV_ranking dc_ranking pm_ranking cd_ranking ct_ranking : Value} (h_m_ranking : PySem.W.findIn K (.ref c_Service) "ranking" = some (some (.ref a_ranking)))
     (h_i_ranking : PySem.W.isFn K (.ref a_ranking) = true)
     (h_l_ranking : K.lookup a_ranking = some ⟨oc_ranking, od_ranking, .func (PySem.W.fnOf "ranking" "Service.ranking" (defArgs s_ranking) (defBody s_ranking) (defScope s_ranking) .none kV_ranking dc_ranking pm_ranking an_ranking cd_ranking ct_ranking), sl_ranking⟩)
     (h_d_ranking : PySem.W.codeIn K cd_ranking "Service.ranking" = true)
     (h_k_ranking : PySem.W.keepIn K (.ref a_ranking) = true)
    {a_begins : Addr} {od_begins an_begins : Option Addr} {sl_begins : Array (Option Value)} {oc_begins kV_begins dc_begins pm_begins cd_begins ct_begins : Value} (h_m_begins : PySem.W.findIn K (.ref c_Service) "begins" = some (some (.ref a_begins)))
     (h_i_begins : PySem.W.isFn K (.ref a_begins) = true)
     (h_l_begins : K.lookup a_begins = some ⟨oc_begins, od_begins, .func (PySem.W.fnOf "begins" "Service.begins" (defArgs s_begins) (defBody s_begins) (defScope s_begins) .none kV_begins dc_begins pm_begins an_begins cd_begins ct_begins), sl_begins⟩)
     (h_d_begins : PySem.W.codeIn K cd_begins "Service.begins" = true)
     (h_k_begins : PySem.W.keepIn K (.ref a_begins) = true)
    {a_line : Addr} {od_line an_line : Option Addr} {sl_line : Array (Option Value)} {oc_line kV_line dc_line pm_line cd_line ct_line : Value} (h_m_line : PySem.W.findIn K (.ref c_Service) "line" = some (some (.ref a_line)))
     (h_i_line : PySem.W.isFn K (.ref a_line) = true)
     (h_l_line : K.lookup a_line = some ⟨oc_line, od_line, .func (PySem.W.fnOf "line" "Service.line" (defArgs s_line) (defBody s_line) (defScope s_line) .none kV_line dc_line pm_line an_line cd_line ct_line), sl_line⟩)
     (h_d_line : PySem.W.codeIn K cd_line "Service.line" = true)
     (h_k_line : PySem.W.keepIn K (.ref a_line) = true)
    {a_rule : Addr} {od_rule an_rule : Option Addr} {sl_rule : Array (Option Value)} {oc_rule kV_rule dc_rule pm_rule cd_rule ct_rule : Value} (h_m_rule : PySem.W.findIn K (.ref c_Service) "rule" = some (some (.ref a_rule)))
     (h_i_rule : PySem.W.isFn K (.ref a_rule) = true)
     (h_l_rule : K.lookup a_rule = some ⟨oc_rule, od_rule, .func (PySem.W.fnOf "rule" "Service.rule" (defArgs s_rule) (defBody s_rule) (defScope s_rule) .none kV_rule dc_rule pm_rule an_rule cd_rule ct_rule), sl_rule⟩)
     (h_d_rule : PySem.W.codeIn K cd_rule "Service.rule" = true)
     (h_k_rule : PySem.W.keepIn K (.ref a_rule) = true)
    {a_normally : Addr} {od_normally an_normally : Option Addr} {sl_normally : Array (Option Value)} {oc_normally kV_normally dc_normally pm_normally cd_normally ct_normally : Value} (h_m_normally : PySem.W.findIn K (.ref c_Service) "normally" = some (some (.ref a_normally)))
     (h_i_normally : PySem.W.isFn K (.ref a_normally) = true)
     (h_l_normally : K.lookup a_normally = some ⟨oc_normally, od_normally, .func (PySem.W.fnOf "normally" "Service.normally" (defArgs s_normally) (defBody s_normally) (defScope s_normally) .none kV_normally dc_normally pm_normally an_normally cd_normally ct_normally), sl_normally⟩)
     (h_d_normally : PySem.W.codeIn K cd_normally "Service.normally" = true)
     (h_k_normally : PySem.W.keepIn K (.ref a_normally) = true)
    {a_always : Addr} {od_always an_always : Option Addr} {sl_always : Array (Option Value)} {oc_always kV_always dc_always pm_always cd_always ct_always : Value} (h_m_always : PySem.W.findIn K (.ref c_Service) "always" = some (some (.ref a_always)))
     (h_i_always : PySem.W.isFn K (.ref a_always) = true)
     (h_l_always : K.lookup a_always = some ⟨oc_always, od_always, .func (PySem.W.fnOf "always" "Service.always" (defArgs s_always) (defBody s_always) (defScope s_always) .none kV_always dc_always pm_always an_always cd_always ct_always), sl_always⟩)
     (h_d_always : PySem.W.codeIn K cd_always "Service.always" = true)
     (h_k_always : PySem.W.keepIn K (.ref a_always) = true)
    {a_rank : Addr} {od_rank an_rank : Option Addr} {sl_rank : Array (Option Value)} {oc_rank kV_rank dc_rank pm_rank cd_rank ct_rank : Value} (h_m_rank : PySem.W.findIn K (.ref c_Service) "rank" = some (some (.ref a_rank)))
     (h_i_rank : PySem.W.isFn K (.ref a_rank) = true)
     (h_l_rank : K.lookup a_rank = some ⟨oc_rank, od_rank, .func (PySem.W.fnOf "rank" "Service.rank" (defArgs s_rank) (defBody s_rank) (defScope s_rank) .none kV_rank dc_rank pm_rank an_rank cd_rank ct_rank), sl_rank⟩)
     (h_d_rank : PySem.W.codeIn K cd_rank "Service.rank" = true)
     (h_k_rank : PySem.W.keepIn K (.ref a_rank) = true)
    {a_toldR : Addr} {od_toldR an_toldR : Option Addr} {sl_toldR : Array (Option Value)} {oc_toldR kV_toldR dc_toldR pm_toldR cd_toldR ct_toldR : Value} (h_m_toldR : PySem.W.findIn K (.ref c_Service) "told_ranks" = some (some (.ref a_toldR)))
     (h_i_toldR : PySem.W.isFn K (.ref a_toldR) = true)
     (h_l_toldR : K.lookup a_toldR = some ⟨oc_toldR, od_toldR, .func (PySem.W.fnOf "told_ranks" "Service.told_ranks" (defArgs s_toldR) (defBody s_toldR) (defScope s_toldR) .none kV_toldR dc_toldR pm_toldR an_toldR cd_toldR ct_toldR), sl_toldR⟩)
     (h_d_toldR : PySem.W.codeIn K cd_toldR "Service.told_ranks" = true)
     (h_k_toldR : PySem.W.keepIn K (.ref a_toldR) = true)
    {a_drop : Addr} {od_drop an_drop : Option Addr} {sl_drop : Array (Option Value)} {oc_drop kV_drop dc_drop pm_drop cd_drop ct_drop : Value} (h_m_drop : PySem.W.findIn K (.ref c_Service) "drop" = some (some (.ref a_drop)))
     (h_i_drop : PySem.W.isFn K (.ref a_drop) = true)
     (h_l_drop : K.lookup a_drop = some ⟨oc_drop, od_drop, .func (PySem.W.fnOf "drop" "Service.drop" (defArgs s_drop) (defBody s_drop) (defScope s_drop) .none kV_drop dc_drop pm_drop an_drop cd_drop ct_drop), sl_drop⟩)
     (h_d_drop : PySem.W.codeIn K cd_drop "Service.drop" = true)
     (h_k_drop : PySem.W.keepIn K (.ref a_drop) = true)
    {a_asked : Addr} {od_asked an_asked : Option Addr} {sl_asked : Array (Option Value)} {oc_asked kV_asked dc_asked pm_asked cd_asked ct_asked : Value} (h_g_asked : PySem.W.nsIn K mainGlobals "asked" = some (some (.ref a_asked)))
     (h_l_asked : K.lookup a_asked = some ⟨oc_asked, od_asked, .func (PySem.W.fnOf "asked" "asked" (defArgs s_asked) (defBody s_asked) (defScope s_asked) .none kV_asked dc_asked pm_asked an_asked cd_asked ct_asked), sl_asked⟩)
     (h_d_asked : PySem.W.codeIn K cd_asked "asked" = true)
     (h_k_asked : PySem.W.keepIn K (.ref a_asked) = true)
    {a_answer : Addr} {od_answer an_answer : Option Addr} {sl_answer : Array (Option Value)} {oc_answer kV_answer dc_answer pm_answer cd_answer ct_answer : Value} (h_g_answer : PySem.W.nsIn K mainGlobals "answer" = some (some (.ref a_answer)))
     (h_l_answer : K.lookup a_answer = some ⟨oc_answer, od_answer, .func (PySem.W.fnOf "answer" "answer" (defArgs s_answer) (defBody s_answer) (defScope s_answer) .none kV_answer dc_answer pm_answer an_answer cd_answer ct_answer), sl_answer⟩)
     (h_d_answer : PySem.W.codeIn K cd_answer "answer" = true)
     (h_k_answer : PySem.W.keepIn K (.ref a_answer) = true)
    {a_numBh : Addr} {od_numBh an_numBh : Option Addr} {sl_numBh : Array (Option Value)} {oc_numBh kV_numBh dc_numBh pm_numBh cd_numBh ct_numBh : Value} (h_g_numBh : PySem.W.nsIn K mainGlobals "numbers_behind" = some (some (.ref a_numBh)))
     (h_l_numBh : K.lookup a_numBh = some ⟨oc_numBh, od_numBh, .func (PySem.W.fnOf "numbers_behind" "numbers_behind" (defArgs s_numBh) (defBody s_numBh) (defScope s_numBh) .none kV_numBh dc_numBh pm_numBh an_numBh cd_numBh ct_numBh), sl_numBh⟩)
     (h_d_numBh : PySem.W.codeIn K cd_numBh "numbers_behind" = true)
     (h_k_numBh : PySem.W.keepIn K (.ref a_numBh) = true)
    {a_answers : Addr} {od_answers an_answers : Option Addr} {sl_answers : Array (Option Value)} {oc_answers kV_answers dc_answers pm_answers cd_answers ct_answers : Value} (h_g_answers : PySem.W.nsIn K mainGlobals "answers" = some (some (.ref a_answers)))
     (h_l_answers : K.lookup a_answers = some ⟨oc_answers, od_answers, .func (PySem.W.fnOf "answers" "answers" (defArgs s_answers) (defBody s_answers) (defScope s_answers) .none kV_answers dc_answers pm_answers an_answers cd_answers ct_answers), sl_answers⟩)
     (h_d_answers : PySem.W.codeIn K cd_answers "answers" = true)
     (h_k_answers : PySem.W.keepIn K (.ref a_answers) = true)
    : ∃ fd : FuncData, (∀ (s : Shared) (us : List Value), us.length = (["calls"] : List Str).length → BindsTo s fd ⟨us, []⟩ ((["calls"] : List Str).zip us)) ∧ ∀ base : Heap, K.In base → base.Ns mainGlobals mg → FnOk P w K mg base CX0 44 fa fd ["calls"] (spAns K) := by
  have e := hfa.symm.trans (PySem.W.mg_of X G h_g_answers)
  cases e
  have F_numAt := fun_mk (st := s_numAt) h_l_numAt h_d_numAt h_k_numAt
  have F_numBe := fun_mk (st := s_numBe) h_l_numBe h_d_numBe h_k_numBe
  have F_rdC := fun_mk (st := s_rdC) h_l_rdC h_d_rdC h_k_rdC
  have F_rdCs := fun_mk (st := s_rdCs) h_l_rdCs h_d_rdCs h_k_rdCs
  have F_isAt := fun_mk (st := s_isAt) h_l_isAt h_d_isAt h_k_isAt
  have F_parts := fun_mk (st := s_parts) h_l_parts h_d_parts h_k_parts
  have F_allAt := fun_mk (st := s_allAt) h_l_allAt h_d_allAt h_k_allAt
  have F_atI := fun_mk (st := s_atI) h_l_atI h_d_atI h_k_atI
  have F_has := fun_mk (st := s_has) h_l_has h_d_has h_k_has
  have F_sat := fun_mk (st := s_sat) h_l_sat h_d_sat h_k_sat
  have F_every := fun_mk (st := s_every) h_l_every h_d_every h_k_every
  have F_mayRel := fun_mk (st := s_mayRel) h_l_mayRel h_d_mayRel h_k_mayRel
  have F_shown := fun_mk (st := s_shown) h_l_shown h_d_shown h_k_shown
  have F_poss := fun_mk (st := s_poss) h_l_poss h_d_poss h_k_poss
  have F_possib := fun_mk (st := s_possib) h_l_possib h_d_possib h_k_possib
  have F_moI := fun_mk (st := s_moI) h_l_moI h_d_moI h_k_moI
  have F_some := fun_mk (st := s_some) h_l_some h_d_some h_k_some
  have F_exc := fun_mk (st := s_exc) h_l_exc h_d_exc h_k_exc
  have F_follow := fun_mk (st := s_follow) h_l_follow h_d_follow h_k_follow
  have F_next := fun_mk (st := s_next) h_l_next h_d_next h_k_next
  have F_until := fun_mk (st := s_until) h_l_until h_d_until h_k_until
  have F_raI := fun_mk (st := s_raI) h_l_raI h_d_raI h_k_raI
  have F_rankOf := fun_mk (st := s_rankOf) h_l_rankOf h_d_rankOf h_k_rankOf
  have F_rulesFor := fun_mk (st := s_rulesFor) h_l_rulesFor h_d_rulesFor h_k_rulesFor
  have F_isNor := fun_mk (st := s_isNor) h_l_isNor h_d_isNor h_k_isNor
  have F_isAlw := fun_mk (st := s_isAlw) h_l_isAlw h_d_isAlw h_k_isAlw
  have F_manyR := fun_mk (st := s_manyR) h_l_manyR h_d_manyR h_k_manyR
  have F_reI := fun_mk (st := s_reI) h_l_reI h_d_reI h_k_reI
  have F_toldC := fun_mk (st := s_toldC) h_l_toldC h_d_toldC h_k_toldC
  have F_seI := fun_mk (st := s_seI) h_l_seI h_d_seI h_k_seI
  have F_atWith := fun_mk (st := s_atWith) h_l_atWith h_d_atWith h_k_atWith
  have F_ranking := fun_mk (st := s_ranking) h_l_ranking h_d_ranking h_k_ranking
  have F_begins := fun_mk (st := s_begins) h_l_begins h_d_begins h_k_begins
  have F_line := fun_mk (st := s_line) h_l_line h_d_line h_k_line
  have F_rule := fun_mk (st := s_rule) h_l_rule h_d_rule h_k_rule
  have F_normally := fun_mk (st := s_normally) h_l_normally h_d_normally h_k_normally
  have F_always := fun_mk (st := s_always) h_l_always h_d_always h_k_always
  have F_rank := fun_mk (st := s_rank) h_l_rank h_d_rank h_k_rank
  have F_toldR := fun_mk (st := s_toldR) h_l_toldR h_d_toldR h_k_toldR
  have F_drop := fun_mk (st := s_drop) h_l_drop h_d_drop h_k_drop
  have F_asked := fun_mk (st := s_asked) h_l_asked h_d_asked h_k_asked
  have F_answer := fun_mk (st := s_answer) h_l_answer h_d_answer h_k_answer
  have F_numBh := fun_mk (st := s_numBh) h_l_numBh h_d_numBh h_k_numBh
  have F_answers := fun_mk (st := s_answers) h_l_answers h_d_answers h_k_answers
  let T : Txt K mg := {
    k_EVERYTHING := ⟨_, PySem.W.mg_of X G h_q_EVERYTHING⟩
    k_NOTHING := ⟨_, PySem.W.mg_of X G h_q_NOTHING⟩
    k_NAMED := ⟨_, PySem.W.mg_of X G h_q_NAMED⟩
    k_BOTH := ⟨_, PySem.W.mg_of X G h_q_BOTH⟩
    k_EITHER := ⟨_, PySem.W.mg_of X G h_q_EITHER⟩
    k_NOT := ⟨_, PySem.W.mg_of X G h_q_NOT⟩
    k_SOME := ⟨_, PySem.W.mg_of X G h_q_SOME⟩
    k_ALL := ⟨_, PySem.W.mg_of X G h_q_ALL⟩
    k_NAMES := ⟨_, PySem.W.mg_of X G h_q_NAMES⟩
    k_ROLES := ⟨_, PySem.W.mg_of X G h_q_ROLES⟩
    k_NO_CONCEPTS := ⟨_, PySem.W.mg_of X G h_q_NO_CONCEPTS⟩
    k_NO_RULE := ⟨_, PySem.W.mg_of X G h_q_NO_RULE⟩
    k_EQUAL_RULE := ⟨_, PySem.W.mg_of X G h_q_EQUAL_RULE⟩
    k_TOO_MANY := ⟨_, PySem.W.mg_of X G h_q_TOO_MANY⟩
    k_MOST_AXIOMS := ⟨_, PySem.W.mg_of X G h_q_MOST_AXIOMS⟩
    k_MOST_RULES := ⟨_, PySem.W.mg_of X G h_q_MOST_RULES⟩
    k_MOST_ATOMS := ⟨_, PySem.W.mg_of X G h_q_MOST_ATOMS⟩
    k_BEGINS := ⟨_, PySem.W.mg_of X G h_q_BEGINS⟩
    k_LINE := ⟨_, PySem.W.mg_of X G h_q_LINE⟩
    k_RULE := ⟨_, PySem.W.mg_of X G h_q_RULE⟩
    k_NORMALLY := ⟨_, PySem.W.mg_of X G h_q_NORMALLY⟩
    k_ALWAYS := ⟨_, PySem.W.mg_of X G h_q_ALWAYS⟩
    k_RANK := ⟨_, PySem.W.mg_of X G h_q_RANK⟩
    k_DROP := ⟨_, PySem.W.mg_of X G h_q_DROP⟩
    z_len := PySem.W.mg_none_of X G h_z_len
    z_list := PySem.W.mg_none_of X G h_z_list
    z_all := PySem.W.mg_none_of X G h_z_all
    z_any := PySem.W.mg_none_of X G h_z_any
    z_zip := PySem.W.mg_none_of X G h_z_zip
    z_range := PySem.W.mg_none_of X G h_z_range
    z_enumerate := PySem.W.mg_none_of X G h_z_enumerate
    z_int := PySem.W.mg_none_of X G h_z_int
    z_ValueError := PySem.W.mg_none_of X G h_z_ValueError
    none_ := none_
    g_NONE := PySem.W.mg_of X G h_g_none_
    t_NONE := fun H => .inr ⟨_, _, _, h_l_none_, rfl, rfl, (by show 1 ≤ sizeLine; decide), .cons ⟨_, rfl⟩ .nil⟩
    with_ := with_
    g_WITH := PySem.W.mg_of X G h_g_with_
    t_WITH := fun H => .inr ⟨_, _, _, h_l_with_, rfl, rfl, (by show 5 ≤ sizeLine; decide), .cons ⟨_, rfl⟩ (.cons ⟨_, rfl⟩ (.cons ⟨_, rfl⟩ (.cons ⟨_, rfl⟩ (.cons ⟨_, rfl⟩ .nil))))⟩
    c_Atoms := c_Atoms
    cl_Atoms := ⟨h_pg_Atoms, h_hd_Atoms, h_po_Atoms, h_sa_Atoms⟩
    gc_Atoms := PySem.W.mg_of X G h_g_Atoms
    kc_Atoms := h_kc_Atoms
    na_Atoms_own := h_na_Atoms_own
    c_Models := c_Models
    cl_Models := ⟨h_pg_Models, h_hd_Models, h_po_Models, h_sa_Models⟩
    gc_Models := PySem.W.mg_of X G h_g_Models
    kc_Models := h_kc_Models
    na_Models_atoms := h_na_Models_atoms
    na_Models_kinds := h_na_Models_kinds
    c_Ranking := c_Ranking
    cl_Ranking := ⟨h_pg_Ranking, h_hd_Ranking, h_po_Ranking, h_sa_Ranking⟩
    gc_Ranking := PySem.W.mg_of X G h_g_Ranking
    kc_Ranking := h_kc_Ranking
    na_Ranking_models := h_na_Ranking_models
    na_Ranking_ranks := h_na_Ranking_ranks
    c_Service := c_Service
    cl_Service := ⟨h_pg_Service, h_hd_Service, h_po_Service, h_sa_Service⟩
    gc_Service := PySem.W.mg_of X G h_g_Service
    kc_Service := h_kc_Service
    na_Service_axioms := h_na_Service_axioms
    na_Service_rules := h_na_Service_rules
    ne_AM := h_ne_AM
    ne_AR := h_ne_AR
    ne_MR := h_ne_MR
    c_NoC := c_NoC
    xN := h_xN
    gN := PySem.W.mg_of X G h_gN
    kN := h_kN
    bN := h_bN
    tN := h_tN
    eN := exm_self h_bN h_iN h_tN h_sN
    c_Ref := c_Ref
    xR := ⟨⟨nm_R, q_R, N_R, bs_R, _, sn_R, sub_R, ab_R, col_R, dd_R, m0, m1, m2, m3, m5, h_xL, by decide +kernel⟩, h_saR, h_bR, h_tR, h_kR⟩
    fR := ⟨h_gaR, h_ggR, h_bR, h_hdR⟩
    nR := h_nR
    gR := PySem.W.mg_of X G h_gR
    tR := h_tR
    eR := exm_self h_bR h_isR h_tR h_sR
    vV := h_vV
    a_numAt := a_numAt
    d_numAt := _
    f_numAt := F_numAt
    b_numAt := F_numAt.binds (ps := ["numbers", "at"]) fun _ _ _ _ _ _ us hl => match us, hl with | [_, _], _ => rfl
    g_numAt := PySem.W.mg_of X G h_g_numAt
    a_numBe := a_numBe
    d_numBe := _
    f_numBe := F_numBe
    b_numBe := F_numBe.binds (ps := ["numbers", "at", "limit"]) fun _ _ _ _ _ _ us hl => match us, hl with | [_, _, _], _ => rfl
    g_numBe := PySem.W.mg_of X G h_g_numBe
    a_rdC := a_rdC
    d_rdC := _
    f_rdC := F_rdC
    b_rdC := F_rdC.binds (ps := ["numbers", "at"]) fun _ _ _ _ _ _ us hl => match us, hl with | [_, _], _ => rfl
    g_rdC := PySem.W.mg_of X G h_g_rdC
    a_rdCs := a_rdCs
    d_rdCs := _
    f_rdCs := F_rdCs
    b_rdCs := F_rdCs.binds (ps := ["numbers", "many"]) fun _ _ _ _ _ _ us hl => match us, hl with | [_, _], _ => rfl
    g_rdCs := PySem.W.mg_of X G h_g_rdCs
    a_isAt := a_isAt
    d_isAt := _
    f_isAt := F_isAt
    b_isAt := F_isAt.binds (ps := ["concept"]) fun _ _ _ _ _ _ us hl => match us, hl with | [_], _ => rfl
    g_isAt := PySem.W.mg_of X G h_g_isAt
    a_parts := a_parts
    d_parts := _
    f_parts := F_parts
    b_parts := F_parts.binds (ps := ["concept"]) fun _ _ _ _ _ _ us hl => match us, hl with | [_], _ => rfl
    g_parts := PySem.W.mg_of X G h_g_parts
    a_allAt := a_allAt
    d_allAt := _
    f_allAt := F_allAt
    b_allAt := F_allAt.binds (ps := ["concepts"]) fun _ _ _ _ _ _ us hl => match us, hl with | [_], _ => rfl
    g_allAt := PySem.W.mg_of X G h_g_allAt
    a_atI := a_atI
    d_atI := _
    f_atI := F_atI
    b_atI := F_atI.binds (ps := ["self", "own"]) fun _ _ _ _ _ _ us hl => match us, hl with | [_, _], _ => rfl
    m_atI := ⟨h_mk_Atoms, h_m_atI, h_i_atI, h_kc_Atoms⟩
    a_has := a_has
    d_has := _
    f_has := F_has
    b_has := F_has.binds (ps := ["self", "kind", "concept"]) fun _ _ _ _ _ _ us hl => match us, hl with | [_, _, _], _ => rfl
    m_has := ⟨h_m_has, h_i_has, h_k_has⟩
    a_sat := a_sat
    d_sat := _
    f_sat := F_sat
    b_sat := F_sat.binds (ps := ["self", "kind", "pairs"]) fun _ _ _ _ _ _ us hl => match us, hl with | [_, _, _], _ => rfl
    m_sat := ⟨h_m_sat, h_i_sat, h_k_sat⟩
    a_every := a_every
    d_every := _
    f_every := F_every
    b_every := F_every.binds (ps := ["self"]) fun _ _ _ _ _ _ us hl => match us, hl with | [_], _ => rfl
    m_every := ⟨h_m_every, h_i_every, h_k_every⟩
    a_mayRel := a_mayRel
    d_mayRel := _
    f_mayRel := F_mayRel
    b_mayRel := F_mayRel.binds (ps := ["self", "kind", "role", "other"]) fun _ _ _ _ _ _ us hl => match us, hl with | [_, _, _, _], _ => rfl
    m_mayRel := ⟨h_m_mayRel, h_i_mayRel, h_k_mayRel⟩
    a_shown := a_shown
    d_shown := _
    f_shown := F_shown
    b_shown := F_shown.binds (ps := ["self", "kind", "atom", "is_so", "others"]) fun _ _ _ _ _ _ us hl => match us, hl with | [_, _, _, _, _], _ => rfl
    m_shown := ⟨h_m_shown, h_i_shown, h_k_shown⟩
    a_poss := a_poss
    d_poss := _
    f_poss := F_poss
    b_poss := F_poss.binds (ps := ["self", "kind", "others"]) fun _ _ _ _ _ _ us hl => match us, hl with | [_, _, _], _ => rfl
    m_poss := ⟨h_m_poss, h_i_poss, h_k_poss⟩
    a_possib := a_possib
    d_possib := _
    f_possib := F_possib
    b_possib := F_possib.binds (ps := ["self", "axioms"]) fun _ _ _ _ _ _ us hl => match us, hl with | [_, _], _ => rfl
    m_possib := ⟨h_m_possib, h_i_possib, h_k_possib⟩
    a_moI := a_moI
    d_moI := _
    f_moI := F_moI
    b_moI := F_moI.binds (ps := ["self", "atoms", "axioms"]) fun _ _ _ _ _ _ us hl => match us, hl with | [_, _, _], _ => rfl
    m_moI := ⟨h_mk_Models, h_m_moI, h_i_moI, h_kc_Models⟩
    a_some := a_some
    d_some := _
    f_some := F_some
    b_some := F_some.binds (ps := ["self", "concept", "rules"]) fun _ _ _ _ _ _ us hl => match us, hl with | [_, _, _], _ => rfl
    m_some := ⟨h_m_some, h_i_some, h_k_some⟩
    a_exc := a_exc
    d_exc := _
    f_exc := F_exc
    b_exc := F_exc.binds (ps := ["self", "concept", "rules"]) fun _ _ _ _ _ _ us hl => match us, hl with | [_, _, _], _ => rfl
    m_exc := ⟨h_m_exc, h_i_exc, h_k_exc⟩
    a_follow := a_follow
    d_follow := _
    f_follow := F_follow
    b_follow := F_follow.binds (ps := ["self", "concept", "rules", "other"]) fun _ _ _ _ _ _ us hl => match us, hl with | [_, _, _, _], _ => rfl
    m_follow := ⟨h_m_follow, h_i_follow, h_k_follow⟩
    a_next := a_next
    d_next := _
    f_next := F_next
    b_next := F_next.binds (ps := ["self", "rules"]) fun _ _ _ _ _ _ us hl => match us, hl with | [_, _], _ => rfl
    m_next := ⟨h_m_next, h_i_next, h_k_next⟩
    a_until := a_until
    d_until := _
    f_until := F_until
    b_until := F_until.binds (ps := ["models", "rules"]) fun _ _ _ _ _ _ us hl => match us, hl with | [_, _], _ => rfl
    g_until := PySem.W.mg_of X G h_g_until
    a_raI := a_raI
    d_raI := _
    f_raI := F_raI
    b_raI := F_raI.binds (ps := ["self", "atoms", "axioms", "rules"]) fun _ _ _ _ _ _ us hl => match us, hl with | [_, _, _, _], _ => rfl
    m_raI := ⟨h_mk_Ranking, h_m_raI, h_i_raI, h_kc_Ranking⟩
    a_rankOf := a_rankOf
    d_rankOf := _
    f_rankOf := F_rankOf
    b_rankOf := F_rankOf.binds (ps := ["self", "concept"]) fun _ _ _ _ _ _ us hl => match us, hl with | [_, _], _ => rfl
    m_rankOf := ⟨h_m_rankOf, h_i_rankOf, h_k_rankOf⟩
    a_rulesFor := a_rulesFor
    d_rulesFor := _
    f_rulesFor := F_rulesFor
    b_rulesFor := F_rulesFor.binds (ps := ["self", "concept"]) fun _ _ _ _ _ _ us hl => match us, hl with | [_, _], _ => rfl
    m_rulesFor := ⟨h_m_rulesFor, h_i_rulesFor, h_k_rulesFor⟩
    a_isNor := a_isNor
    d_isNor := _
    f_isNor := F_isNor
    b_isNor := F_isNor.binds (ps := ["self", "concept", "other"]) fun _ _ _ _ _ _ us hl => match us, hl with | [_, _, _], _ => rfl
    m_isNor := ⟨h_m_isNor, h_i_isNor, h_k_isNor⟩
    a_isAlw := a_isAlw
    d_isAlw := _
    f_isAlw := F_isAlw
    b_isAlw := F_isAlw.binds (ps := ["self", "concept", "other"]) fun _ _ _ _ _ _ us hl => match us, hl with | [_, _, _], _ => rfl
    m_isAlw := ⟨h_m_isAlw, h_i_isAlw, h_k_isAlw⟩
    a_manyR := a_manyR
    d_manyR := _
    f_manyR := F_manyR
    b_manyR := F_manyR.binds (ps := ["self", "rule"]) fun _ _ _ _ _ _ us hl => match us, hl with | [_, _], _ => rfl
    m_manyR := ⟨h_m_manyR, h_i_manyR, h_k_manyR⟩
    a_reI := a_reI
    d_reI := _
    f_reI := F_reI
    b_reI := F_reI.binds (ps := ["self", "code"]) fun _ _ _ _ _ _ us hl => match us, hl with | [_, _], _ => rfl
    iR := h_m_reI
    yR := h_i_reI
    a_toldC := a_toldC
    d_toldC := _
    f_toldC := F_toldC
    b_toldC := F_toldC.binds (ps := ["numbers", "many"]) fun _ _ _ _ _ _ us hl => match us, hl with | [_, _], _ => rfl
    g_toldC := PySem.W.mg_of X G h_g_toldC
    a_seI := a_seI
    d_seI := _
    f_seI := F_seI
    b_seI := F_seI.binds (ps := ["self"]) fun _ _ _ _ _ _ us hl => match us, hl with | [_], _ => rfl
    m_seI := ⟨h_mk_Service, h_m_seI, h_i_seI, h_kc_Service⟩
    a_atWith := a_atWith
    d_atWith := _
    f_atWith := F_atWith
    b_atWith := F_atWith.binds (ps := ["self", "more"]) fun _ _ _ _ _ _ us hl => match us, hl with | [_, _], _ => rfl
    m_atWith := ⟨h_m_atWith, h_i_atWith, h_k_atWith⟩
    a_ranking := a_ranking
    d_ranking := _
    f_ranking := F_ranking
    b_ranking := F_ranking.binds (ps := ["self", "more"]) fun _ _ _ _ _ _ us hl => match us, hl with | [_, _], _ => rfl
    m_ranking := ⟨h_m_ranking, h_i_ranking, h_k_ranking⟩
    a_begins := a_begins
    d_begins := _
    f_begins := F_begins
    b_begins := F_begins.binds (ps := ["self"]) fun _ _ _ _ _ _ us hl => match us, hl with | [_], _ => rfl
    m_begins := ⟨h_m_begins, h_i_begins, h_k_begins⟩
    a_line := a_line
    d_line := _
    f_line := F_line
    b_line := F_line.binds (ps := ["self", "numbers"]) fun _ _ _ _ _ _ us hl => match us, hl with | [_, _], _ => rfl
    m_line := ⟨h_m_line, h_i_line, h_k_line⟩
    a_rule := a_rule
    d_rule := _
    f_rule := F_rule
    b_rule := F_rule.binds (ps := ["self", "numbers"]) fun _ _ _ _ _ _ us hl => match us, hl with | [_, _], _ => rfl
    m_rule := ⟨h_m_rule, h_i_rule, h_k_rule⟩
    a_normally := a_normally
    d_normally := _
    f_normally := F_normally
    b_normally := F_normally.binds (ps := ["self", "numbers"]) fun _ _ _ _ _ _ us hl => match us, hl with | [_, _], _ => rfl
    m_normally := ⟨h_m_normally, h_i_normally, h_k_normally⟩
    a_always := a_always
    d_always := _
    f_always := F_always
    b_always := F_always.binds (ps := ["self", "numbers"]) fun _ _ _ _ _ _ us hl => match us, hl with | [_, _], _ => rfl
    m_always := ⟨h_m_always, h_i_always, h_k_always⟩
    a_rank := a_rank
    d_rank := _
    f_rank := F_rank
    b_rank := F_rank.binds (ps := ["self", "numbers"]) fun _ _ _ _ _ _ us hl => match us, hl with | [_, _], _ => rfl
    m_rank := ⟨h_m_rank, h_i_rank, h_k_rank⟩
    a_toldR := a_toldR
    d_toldR := _
    f_toldR := F_toldR
    b_toldR := F_toldR.binds (ps := ["self"]) fun _ _ _ _ _ _ us hl => match us, hl with | [_], _ => rfl
    m_toldR := ⟨h_m_toldR, h_i_toldR, h_k_toldR⟩
    a_drop := a_drop
    d_drop := _
    f_drop := F_drop
    b_drop := F_drop.binds (ps := ["self", "index"]) fun _ _ _ _ _ _ us hl => match us, hl with | [_, _], _ => rfl
    m_drop := ⟨h_m_drop, h_i_drop, h_k_drop⟩
    a_asked := a_asked
    d_asked := _
    f_asked := F_asked
    b_asked := F_asked.binds (ps := ["service", "call", "numbers"]) fun _ _ _ _ _ _ us hl => match us, hl with | [_, _, _], _ => rfl
    g_asked := PySem.W.mg_of X G h_g_asked
    a_answer := a_answer
    d_answer := _
    f_answer := F_answer
    b_answer := F_answer.binds (ps := ["service", "call", "numbers"]) fun _ _ _ _ _ _ us hl => match us, hl with | [_, _, _], _ => rfl
    g_answer := PySem.W.mg_of X G h_g_answer
    a_numBh := a_numBh
    d_numBh := _
    f_numBh := F_numBh
    b_numBh := F_numBh.binds (ps := ["calls", "at"]) fun _ _ _ _ _ _ us hl => match us, hl with | [_, _], _ => rfl
    g_numBh := PySem.W.mg_of X G h_g_numBh
    a_answers := fa
    d_answers := _
    f_answers := F_answers
    b_answers := F_answers.binds (ps := ["calls"]) fun _ _ _ _ _ _ us hl => match us, hl with | [_], _ => rfl
    g_answers := PySem.W.mg_of X G h_g_answers
  }
  exact ⟨_, fun s us hu => match us, hu with | [_], _ => .of_eq rfl, fun base _ _ => ok_answers T⟩
end Ex
open PySem PySem.W PyProof.Rows
set_option maxHeartbeats 0 in
theorem PySem.Challenge.cw_exceptranks_s01_answers_holds : PySem.Challenge.rw_exceptranks_s01_answers.Holds := by
  w_on; k_headS; (case hw => exact ⟨[.list [.int 0]], by decide +kernel, by decide +kernel⟩)
  k_fillS
  refine L2.walk_specK (r := PySem.Challenge.rw_exceptranks_s01_answers) (k := 44) (CX := L2.CX0) (ps := ["calls"]) (sp := Ex.spAns) (by decide +kernel) rfl rfl ⟨rfl, by decide, by decide⟩ (fun w h Y => PySem.W.kIn_of Y) ?F ?S (fun _ _ _ _ z => z)
  case F =>
    intro w mg fa h Y KX G hmg
    refine' Ex.all_mk KX G hmg ?h_q_EVERYTHING ?h_q_NOTHING ?h_q_NAMED ?h_q_BOTH ?h_q_EITHER ?h_q_NOT ?h_q_SOME ?h_q_ALL ?h_q_NAMES ?h_q_ROLES ?h_q_NO_CONCEPTS ?h_q_NO_RULE ?h_q_EQUAL_RULE ?h_q_TOO_MANY ?h_q_MOST_AXIOMS ?h_q_MOST_RULES ?h_q_MOST_ATOMS ?h_q_BEGINS ?h_q_LINE ?h_q_RULE ?h_q_NORMALLY ?h_q_ALWAYS ?h_q_RANK ?h_q_DROP ?h_z_len ?h_z_list ?h_z_all ?h_z_any ?h_z_zip ?h_z_range ?h_z_enumerate ?h_z_int ?h_z_ValueError ?h_g_none_ ?h_l_none_ ?h_g_with_ ?h_l_with_ ?h_g_Atoms ?h_pg_Atoms ?h_hd_Atoms ?h_po_Atoms ?h_sa_Atoms ?h_mk_Atoms ?h_kc_Atoms ?h_na_Atoms_own ?h_g_Models ?h_pg_Models ?h_hd_Models ?h_po_Models ?h_sa_Models ?h_mk_Models ?h_kc_Models ?h_na_Models_atoms ?h_na_Models_kinds ?h_g_Ranking ?h_pg_Ranking ?h_hd_Ranking ?h_po_Ranking ?h_sa_Ranking ?h_mk_Ranking ?h_kc_Ranking ?h_na_Ranking_models ?h_na_Ranking_ranks ?h_g_Service ?h_pg_Service ?h_hd_Service ?h_po_Service ?h_sa_Service ?h_mk_Service ?h_kc_Service ?h_na_Service_axioms ?h_na_Service_rules ?h_ne_AM ?h_ne_AR ?h_ne_MR ?h_gN ?h_xN ?h_kN ?h_bN ?h_tN ?h_iN ?h_sN ?h_gR ?h_xL ?h_saR ?h_gaR ?h_ggR ?h_nR ?h_kR ?h_bR ?h_tR ?h_hdR ?h_isR ?h_sR ?h_vV ?h_g_numAt ?h_l_numAt ?h_d_numAt ?h_k_numAt ?h_g_numBe ?h_l_numBe ?h_d_numBe ?h_k_numBe ?h_g_rdC ?h_l_rdC ?h_d_rdC ?h_k_rdC ?h_g_rdCs ?h_l_rdCs ?h_d_rdCs ?h_k_rdCs ?h_g_isAt ?h_l_isAt ?h_d_isAt ?h_k_isAt ?h_g_parts ?h_l_parts ?h_d_parts ?h_k_parts ?h_g_allAt ?h_l_allAt ?h_d_allAt ?h_k_allAt ?h_m_atI ?h_i_atI ?h_l_atI ?h_d_atI ?h_k_atI ?h_m_has ?h_i_has ?h_l_has ?h_d_has ?h_k_has ?h_m_sat ?h_i_sat ?h_l_sat ?h_d_sat ?h_k_sat ?h_m_every ?h_i_every ?h_l_every ?h_d_every ?h_k_every ?h_m_mayRel ?h_i_mayRel ?h_l_mayRel ?h_d_mayRel ?h_k_mayRel ?h_m_shown ?h_i_shown ?h_l_shown ?h_d_shown ?h_k_shown ?h_m_poss ?h_i_poss ?h_l_poss ?h_d_poss ?h_k_poss ?h_m_possib ?h_i_possib ?h_l_possib ?h_d_possib ?h_k_possib ?h_m_moI ?h_i_moI ?h_l_moI ?h_d_moI ?h_k_moI ?h_m_some ?h_i_some ?h_l_some ?h_d_some ?h_k_some ?h_m_exc ?h_i_exc ?h_l_exc ?h_d_exc ?h_k_exc ?h_m_follow ?h_i_follow ?h_l_follow ?h_d_follow ?h_k_follow ?h_m_next ?h_i_next ?h_l_next ?h_d_next ?h_k_next ?h_g_until ?h_l_until ?h_d_until ?h_k_until ?h_m_raI ?h_i_raI ?h_l_raI ?h_d_raI ?h_k_raI ?h_m_rankOf ?h_i_rankOf ?h_l_rankOf ?h_d_rankOf ?h_k_rankOf ?h_m_rulesFor ?h_i_rulesFor ?h_l_rulesFor ?h_d_rulesFor ?h_k_rulesFor ?h_m_isNor ?h_i_isNor ?h_l_isNor ?h_d_isNor ?h_k_isNor ?h_m_isAlw ?h_i_isAlw ?h_l_isAlw ?h_d_isAlw ?h_k_isAlw ?h_m_manyR ?h_i_manyR ?h_l_manyR ?h_d_manyR ?h_k_manyR ?h_m_reI ?h_i_reI ?h_l_reI ?h_d_reI ?h_k_reI ?h_g_toldC ?h_l_toldC ?h_d_toldC ?h_k_toldC ?h_m_seI ?h_i_seI ?h_l_seI ?h_d_seI ?h_k_seI ?h_m_atWith ?h_i_atWith ?h_l_atWith ?h_d_atWith ?h_k_atWith ?h_m_ranking ?h_i_ranking ?h_l_ranking ?h_d_ranking ?h_k_ranking ?h_m_begins ?h_i_begins ?h_l_begins ?h_d_begins ?h_k_begins ?h_m_line ?h_i_line ?h_l_line ?h_d_line ?h_k_line ?h_m_rule ?h_i_rule ?h_l_rule ?h_d_rule ?h_k_rule ?h_m_normally ?h_i_normally ?h_l_normally ?h_d_normally ?h_k_normally ?h_m_always ?h_i_always ?h_l_always ?h_d_always ?h_k_always ?h_m_rank ?h_i_rank ?h_l_rank ?h_d_rank ?h_k_rank ?h_m_toldR ?h_i_toldR ?h_l_toldR ?h_d_toldR ?h_k_toldR ?h_m_drop ?h_i_drop ?h_l_drop ?h_d_drop ?h_k_drop ?h_g_asked ?h_l_asked ?h_d_asked ?h_k_asked ?h_g_answer ?h_l_answer ?h_d_answer ?h_k_answer ?h_g_numBh ?h_l_numBh ?h_d_numBh ?h_k_numBh ?h_g_answers ?h_l_answers ?h_d_answers ?h_k_answers
    (case h_q_EVERYTHING => k_is)
    (case h_q_NOTHING => k_is)
    (case h_q_NAMED => k_is)
    (case h_q_BOTH => k_is)
    (case h_q_EITHER => k_is)
    (case h_q_NOT => k_is)
    (case h_q_SOME => k_is)
    (case h_q_ALL => k_is)
    (case h_q_NAMES => k_is)
    (case h_q_ROLES => k_is)
    (case h_q_NO_CONCEPTS => k_is)
    (case h_q_NO_RULE => k_is)
    (case h_q_EQUAL_RULE => k_is)
    (case h_q_TOO_MANY => k_is)
    (case h_q_MOST_AXIOMS => k_is)
    (case h_q_MOST_RULES => k_is)
    (case h_q_MOST_ATOMS => k_is)
    (case h_q_BEGINS => k_is)
    (case h_q_LINE => k_is)
    (case h_q_RULE => k_is)
    (case h_q_NORMALLY => k_is)
    (case h_q_ALWAYS => k_is)
    (case h_q_RANK => k_is)
    (case h_q_DROP => k_is)
    (case h_z_len => k_is)
    (case h_z_list => k_is)
    (case h_z_all => k_is)
    (case h_z_any => k_is)
    (case h_z_zip => k_is)
    (case h_z_range => k_is)
    (case h_z_enumerate => k_is)
    (case h_z_int => k_is)
    (case h_z_ValueError => k_is)
    (case h_g_none_ => k_is)
    (case h_l_none_ => k_is)
    (case h_g_with_ => k_is)
    (case h_l_with_ => k_is)
    (case h_g_Atoms => k_is)
    (case h_pg_Atoms => k_is)
    (case h_hd_Atoms => k_is)
    (case h_po_Atoms => k_is)
    (case h_sa_Atoms => k_is)
    (case h_mk_Atoms => k_is)
    (case h_kc_Atoms => k_is)
    (case h_na_Atoms_own => k_is)
    (case h_g_Models => k_is)
    (case h_pg_Models => k_is)
    (case h_hd_Models => k_is)
    (case h_po_Models => k_is)
    (case h_sa_Models => k_is)
    (case h_mk_Models => k_is)
    (case h_kc_Models => k_is)
    (case h_na_Models_atoms => k_is)
    (case h_na_Models_kinds => k_is)
    (case h_g_Ranking => k_is)
    (case h_pg_Ranking => k_is)
    (case h_hd_Ranking => k_is)
    (case h_po_Ranking => k_is)
    (case h_sa_Ranking => k_is)
    (case h_mk_Ranking => k_is)
    (case h_kc_Ranking => k_is)
    (case h_na_Ranking_models => k_is)
    (case h_na_Ranking_ranks => k_is)
    (case h_g_Service => k_is)
    (case h_pg_Service => k_is)
    (case h_hd_Service => k_is)
    (case h_po_Service => k_is)
    (case h_sa_Service => k_is)
    (case h_mk_Service => k_is)
    (case h_kc_Service => k_is)
    (case h_na_Service_axioms => k_is)
    (case h_na_Service_rules => k_is)
    (case h_ne_AM => decide)
    (case h_ne_AR => decide)
    (case h_ne_MR => decide)
    (case h_gN => k_is)
    (case h_xN => k_exc)
    (case h_kN => k_is)
    (case h_bN => k_is)
    (case h_tN => k_is)
    (case h_iN => k_is)
    (case h_sN => first | rfl | k_is)
    (case h_gR => k_is)
    (case h_xL => k_is)
    (case h_saR => k_is)
    (case h_gaR => k_is)
    (case h_ggR => k_is)
    (case h_nR => k_is)
    (case h_kR => k_is)
    (case h_bR => k_is)
    (case h_tR => k_is)
    (case h_hdR => k_is)
    (case h_isR => k_is)
    (case h_sR => first | rfl | k_is)
    (case h_vV => first | rfl | k_is | decide +kernel)
    (case h_g_numAt => k_is)
    (case h_l_numAt => k_is)
    (case h_d_numAt => k_is)
    (case h_k_numAt => k_is)
    (case h_g_numBe => k_is)
    (case h_l_numBe => k_is)
    (case h_d_numBe => k_is)
    (case h_k_numBe => k_is)
    (case h_g_rdC => k_is)
    (case h_l_rdC => k_is)
    (case h_d_rdC => k_is)
    (case h_k_rdC => k_is)
    (case h_g_rdCs => k_is)
    (case h_l_rdCs => k_is)
    (case h_d_rdCs => k_is)
    (case h_k_rdCs => k_is)
    (case h_g_isAt => k_is)
    (case h_l_isAt => k_is)
    (case h_d_isAt => k_is)
    (case h_k_isAt => k_is)
    (case h_g_parts => k_is)
    (case h_l_parts => k_is)
    (case h_d_parts => k_is)
    (case h_k_parts => k_is)
    (case h_g_allAt => k_is)
    (case h_l_allAt => k_is)
    (case h_d_allAt => k_is)
    (case h_k_allAt => k_is)
    (case h_m_atI => k_is)
    (case h_i_atI => k_is)
    (case h_l_atI => k_is)
    (case h_d_atI => k_is)
    (case h_k_atI => k_is)
    (case h_m_has => k_is)
    (case h_i_has => k_is)
    (case h_l_has => k_is)
    (case h_d_has => k_is)
    (case h_k_has => k_is)
    (case h_m_sat => k_is)
    (case h_i_sat => k_is)
    (case h_l_sat => k_is)
    (case h_d_sat => k_is)
    (case h_k_sat => k_is)
    (case h_m_every => k_is)
    (case h_i_every => k_is)
    (case h_l_every => k_is)
    (case h_d_every => k_is)
    (case h_k_every => k_is)
    (case h_m_mayRel => k_is)
    (case h_i_mayRel => k_is)
    (case h_l_mayRel => k_is)
    (case h_d_mayRel => k_is)
    (case h_k_mayRel => k_is)
    (case h_m_shown => k_is)
    (case h_i_shown => k_is)
    (case h_l_shown => k_is)
    (case h_d_shown => k_is)
    (case h_k_shown => k_is)
    (case h_m_poss => k_is)
    (case h_i_poss => k_is)
    (case h_l_poss => k_is)
    (case h_d_poss => k_is)
    (case h_k_poss => k_is)
    (case h_m_possib => k_is)
    (case h_i_possib => k_is)
    (case h_l_possib => k_is)
    (case h_d_possib => k_is)
    (case h_k_possib => k_is)
    (case h_m_moI => k_is)
    (case h_i_moI => k_is)
    (case h_l_moI => k_is)
    (case h_d_moI => k_is)
    (case h_k_moI => k_is)
    (case h_m_some => k_is)
    (case h_i_some => k_is)
    (case h_l_some => k_is)
    (case h_d_some => k_is)
    (case h_k_some => k_is)
    (case h_m_exc => k_is)
    (case h_i_exc => k_is)
    (case h_l_exc => k_is)
    (case h_d_exc => k_is)
    (case h_k_exc => k_is)
    (case h_m_follow => k_is)
    (case h_i_follow => k_is)
    (case h_l_follow => k_is)
    (case h_d_follow => k_is)
    (case h_k_follow => k_is)
    (case h_m_next => k_is)
    (case h_i_next => k_is)
    (case h_l_next => k_is)
    (case h_d_next => k_is)
    (case h_k_next => k_is)
    (case h_g_until => k_is)
    (case h_l_until => k_is)
    (case h_d_until => k_is)
    (case h_k_until => k_is)
    (case h_m_raI => k_is)
    (case h_i_raI => k_is)
    (case h_l_raI => k_is)
    (case h_d_raI => k_is)
    (case h_k_raI => k_is)
    (case h_m_rankOf => k_is)
    (case h_i_rankOf => k_is)
    (case h_l_rankOf => k_is)
    (case h_d_rankOf => k_is)
    (case h_k_rankOf => k_is)
    (case h_m_rulesFor => k_is)
    (case h_i_rulesFor => k_is)
    (case h_l_rulesFor => k_is)
    (case h_d_rulesFor => k_is)
    (case h_k_rulesFor => k_is)
    (case h_m_isNor => k_is)
    (case h_i_isNor => k_is)
    (case h_l_isNor => k_is)
    (case h_d_isNor => k_is)
    (case h_k_isNor => k_is)
    (case h_m_isAlw => k_is)
    (case h_i_isAlw => k_is)
    (case h_l_isAlw => k_is)
    (case h_d_isAlw => k_is)
    (case h_k_isAlw => k_is)
    (case h_m_manyR => k_is)
    (case h_i_manyR => k_is)
    (case h_l_manyR => k_is)
    (case h_d_manyR => k_is)
    (case h_k_manyR => k_is)
    (case h_m_reI => k_is)
    (case h_i_reI => k_is)
    (case h_l_reI => k_is)
    (case h_d_reI => k_is)
    (case h_k_reI => k_is)
    (case h_g_toldC => k_is)
    (case h_l_toldC => k_is)
    (case h_d_toldC => k_is)
    (case h_k_toldC => k_is)
    (case h_m_seI => k_is)
    (case h_i_seI => k_is)
    (case h_l_seI => k_is)
    (case h_d_seI => k_is)
    (case h_k_seI => k_is)
    (case h_m_atWith => k_is)
    (case h_i_atWith => k_is)
    (case h_l_atWith => k_is)
    (case h_d_atWith => k_is)
    (case h_k_atWith => k_is)
    (case h_m_ranking => k_is)
    (case h_i_ranking => k_is)
    (case h_l_ranking => k_is)
    (case h_d_ranking => k_is)
    (case h_k_ranking => k_is)
    (case h_m_begins => k_is)
    (case h_i_begins => k_is)
    (case h_l_begins => k_is)
    (case h_d_begins => k_is)
    (case h_k_begins => k_is)
    (case h_m_line => k_is)
    (case h_i_line => k_is)
    (case h_l_line => k_is)
    (case h_d_line => k_is)
    (case h_k_line => k_is)
    (case h_m_rule => k_is)
    (case h_i_rule => k_is)
    (case h_l_rule => k_is)
    (case h_d_rule => k_is)
    (case h_k_rule => k_is)
    (case h_m_normally => k_is)
    (case h_i_normally => k_is)
    (case h_l_normally => k_is)
    (case h_d_normally => k_is)
    (case h_k_normally => k_is)
    (case h_m_always => k_is)
    (case h_i_always => k_is)
    (case h_l_always => k_is)
    (case h_d_always => k_is)
    (case h_k_always => k_is)
    (case h_m_rank => k_is)
    (case h_i_rank => k_is)
    (case h_l_rank => k_is)
    (case h_d_rank => k_is)
    (case h_k_rank => k_is)
    (case h_m_toldR => k_is)
    (case h_i_toldR => k_is)
    (case h_l_toldR => k_is)
    (case h_d_toldR => k_is)
    (case h_k_toldR => k_is)
    (case h_m_drop => k_is)
    (case h_i_drop => k_is)
    (case h_l_drop => k_is)
    (case h_d_drop => k_is)
    (case h_k_drop => k_is)
    (case h_g_asked => k_is)
    (case h_l_asked => k_is)
    (case h_d_asked => k_is)
    (case h_k_asked => k_is)
    (case h_g_answer => k_is)
    (case h_l_answer => k_is)
    (case h_d_answer => k_is)
    (case h_k_answer => k_is)
    (case h_g_numBh => k_is)
    (case h_l_numBh => k_is)
    (case h_d_numBh => k_is)
    (case h_k_numBh => k_is)
    (case h_g_answers => k_is)
    (case h_l_answers => k_is)
    (case h_d_answers => k_is)
    (case h_k_answers => k_is)
  case S =>
    intro K H xs a hO hwi hask hx
    cases hx with
    | cons h1 h2 =>
      cases h2
      cases h1 with
      | lst hs ha =>
        have e := L2.ints_dw a.1 _ ha
        subst e
        exact ⟨_, a.1, rfl, hs, hask, fun H' p hp => .lst (L2.SqL.of hp) (L2.dw_ints _)⟩
