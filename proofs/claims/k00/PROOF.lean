import PyProof.Rows.All
import Wide.All
import OpenK.AllK
import Wide.FinOn
import HandS.ForMost
import HandS.Wide
import HandS.Evl
import PySem.Challenge.RW_herefrom_k00_checks_of_frames_tell_one_c
set_option Elab.async false
set_option maxRecDepth 100000
set_option maxHeartbeats 1000000
/-! DL: readings over plain data. A state is the slots' data and the mutable objects' data; all else is frozen. -/
namespace DL
open PySem L2 Evl

/-- plain data; oth: a raw value (an address) -/
inductive D where
  | non | bl (b : Bool) | int (i : Int) | str (x : Str) | lst (xs : List D) | frz (xs : List D) | tup (xs : List D) | oth (v : V)
abbrev D.adr (a : Addr) : D := .oth (.ref a)
def ofV : V → D
  | .non => .non
  | .bl b => .bl b
  | .int i => .int i
  | .str x => .str x
  | v => .oth v
mutual
/-- v stands for d, in the frozen heap S -/
def Rp (K : PySem.W.Frag) (S : Hp) : D → V → Prop
  | .non, v => v = .non
  | .bl b, v => v = .bl b
  | .int i, v => v = .int i
  | .str x, v => v = .str x
  | .lst ds, v => ∃ a xs, v = .ref a ∧ S a = some (.lst xs) ∧ RpL K S ds xs
  | .frz ds, v => ∃ a xs, v = .ref a ∧ SqL K S a xs ∧ RpL K S ds xs
  | .tup ds, v => ∃ a xs, v = .ref a ∧ SqT K S a xs ∧ RpL K S ds xs
  | .oth u, v => v = u
def RpL (K : PySem.W.Frag) (S : Hp) : List D → List V → Prop
  | [], vs => vs = []
  | d :: ds, vs => ∃ v r, vs = v :: r ∧ Rp K S d v ∧ RpL K S ds r
end
section
variable {K : PySem.W.Frag} {S S' H H' : Hp}
mutual
theorem Rp.mono (e : Ex S S') : ∀ (d : D) (v : V), Rp K S d v → Rp K S' d v
  | .non, v, h => by rw [Rp] at h ⊢; exact h
  | .bl b, v, h => by rw [Rp] at h ⊢; exact h
  | .int i, v, h => by rw [Rp] at h ⊢; exact h
  | .str x, v, h => by rw [Rp] at h ⊢; exact h
  | .lst ds, v, h => by
    rw [Rp] at h ⊢
    obtain ⟨a, xs, e1, h1, h2⟩ := h
    exact ⟨a, xs, e1, e _ _ h1, RpL.mono e ds xs h2⟩
  | .frz ds, v, h => by
    rw [Rp] at h ⊢
    obtain ⟨a, xs, e1, h1, h2⟩ := h
    exact ⟨a, xs, e1, ex_l e h1, RpL.mono e ds xs h2⟩
  | .tup ds, v, h => by
    rw [Rp] at h ⊢
    obtain ⟨a, xs, e1, h1, h2⟩ := h
    exact ⟨a, xs, e1, ex_t e h1, RpL.mono e ds xs h2⟩
  | .oth u, v, h => by rw [Rp] at h ⊢; exact h
theorem RpL.mono (e : Ex S S') : ∀ (ds : List D) (vs : List V), RpL K S ds vs → RpL K S' ds vs
  | [], vs, h => by rw [RpL] at h ⊢; exact h
  | d :: ds, vs, h => by
    rw [RpL] at h ⊢
    obtain ⟨v, r, e1, h1, h2⟩ := h
    exact ⟨v, r, e1, Rp.mono e d v h1, RpL.mono e ds r h2⟩
end
theorem RpL.nil : RpL K S [] [] := by rw [RpL]
theorem RpL.cons {d : D} {ds : List D} {v : V} {vs : List V} (h : Rp K S d v) (r : RpL K S ds vs) : RpL K S (d :: ds) (v :: vs) := by
  rw [RpL]
  exact ⟨v, vs, rfl, h, r⟩
theorem RpL.uncons {d : D} {ds : List D} {v : V} {vs : List V} (h : RpL K S (d :: ds) (v :: vs)) : Rp K S d v ∧ RpL K S ds vs := by
  rw [RpL] at h
  obtain ⟨u, r, e, h1, h2⟩ := h
  obtain ⟨rfl, rfl⟩ := List.cons.inj e
  exact ⟨h1, h2⟩
theorem RpL.nil_of {vs : List V} (h : RpL K S [] vs) : vs = [] := by
  rw [RpL] at h
  exact h
theorem RpL.cons_of {d : D} {ds : List D} {vs : List V} (h : RpL K S (d :: ds) vs) : ∃ v r, vs = v :: r ∧ Rp K S d v ∧ RpL K S ds r := by
  rw [RpL] at h
  exact h
theorem RpL.length : ∀ {ds : List D} {vs : List V}, RpL K S ds vs → ds.length = vs.length
  | [], vs, h => by rw [h.nil_of]; rfl
  | d :: ds, vs, h => by
    obtain ⟨v, r, rfl, _, h2⟩ := h.cons_of
    simp [RpL.length h2]
theorem RpL.get : ∀ {ds : List D} {vs : List V} {i : Nat} {v : V}, RpL K S ds vs → vs[i]? = some v → ∃ d, ds[i]? = some d ∧ Rp K S d v
  | [], vs, i, v, h, e => by rw [h.nil_of] at e; simp at e
  | d :: ds, vs, 0, v, h, e => by
    obtain ⟨u, r, rfl, h1, h2⟩ := h.cons_of
    simp at e
    subst e
    exact ⟨d, rfl, h1⟩
  | d :: ds, vs, i + 1, v, h, e => by
    obtain ⟨u, r, rfl, h1, h2⟩ := h.cons_of
    obtain ⟨d', e', h'⟩ := RpL.get (i := i) h2 (by simpa using e)
    exact ⟨d', by simpa using e', h'⟩
theorem RpL.getD : ∀ {ds : List D} {vs : List V} {i : Nat} {d : D}, RpL K S ds vs → ds[i]? = some d → ∃ v, vs[i]? = some v ∧ Rp K S d v
  | [], vs, i, d, h, e => by simp at e
  | d :: ds, vs, 0, d', h, e => by
    obtain ⟨u, r, rfl, h1, h2⟩ := h.cons_of
    simp at e
    subst e
    exact ⟨u, rfl, h1⟩
  | d :: ds, vs, i + 1, d', h, e => by
    obtain ⟨u, r, rfl, h1, h2⟩ := h.cons_of
    obtain ⟨v', e', h'⟩ := RpL.getD (i := i) h2 (by simpa using e)
    exact ⟨v', by simpa using e', h'⟩
theorem RpL.append : ∀ {ds es : List D} {vs us : List V}, RpL K S ds vs → RpL K S es us → RpL K S (ds ++ es) (vs ++ us)
  | [], es, vs, us, h, k => by rw [h.nil_of]; exact k
  | d :: ds, es, vs, us, h, k => by
    obtain ⟨u, r, rfl, h1, h2⟩ := h.cons_of
    exact RpL.cons h1 (RpL.append h2 k)
theorem RpL.take : ∀ (n : Nat) {ds : List D} {vs : List V}, RpL K S ds vs → RpL K S (ds.take n) (vs.take n)
  | 0, ds, vs, h => by simp only [List.take_zero]; exact RpL.nil
  | n + 1, [], vs, h => by rw [h.nil_of]; exact RpL.nil
  | n + 1, d :: ds, vs, h => by
    obtain ⟨u, r, rfl, h1, h2⟩ := h.cons_of
    exact RpL.cons h1 (RpL.take n h2)
theorem RpL.drop : ∀ (n : Nat) {ds : List D} {vs : List V}, RpL K S ds vs → RpL K S (ds.drop n) (vs.drop n)
  | 0, ds, vs, h => by simp only [List.drop_zero]; exact h
  | n + 1, [], vs, h => by rw [h.nil_of]; exact RpL.nil
  | n + 1, d :: ds, vs, h => by
    obtain ⟨u, r, rfl, h1, h2⟩ := h.cons_of
    simp only [List.drop_succ_cons]
    exact RpL.drop n h2
theorem RpL.set : ∀ (n : Nat) {d : D} {v : V} {ds : List D} {vs : List V}, Rp K S d v → RpL K S ds vs → RpL K S (ds.set n d) (vs.set n v)
  | n, d, v, [], vs, g, h => by rw [h.nil_of]; exact RpL.nil
  | 0, d, v, d' :: ds, vs, g, h => by
    obtain ⟨u, r, rfl, h1, h2⟩ := h.cons_of
    exact RpL.cons g h2
  | n + 1, d, v, d' :: ds, vs, g, h => by
    obtain ⟨u, r, rfl, h1, h2⟩ := h.cons_of
    exact RpL.cons h1 (RpL.set n g h2)
theorem RpL.dropLast {ds : List D} {vs : List V} (h : RpL K S ds vs) : RpL K S ds.dropLast vs.dropLast := by
  rw [List.dropLast_eq_take, List.dropLast_eq_take, h.length]
  exact h.take _
theorem RpL.reverse : ∀ {ds : List D} {vs : List V}, RpL K S ds vs → RpL K S ds.reverse vs.reverse
  | [], vs, h => by rw [h.nil_of]; exact RpL.nil
  | d :: ds, vs, h => by
    obtain ⟨u, r, rfl, h1, h2⟩ := h.cons_of
    rw [List.reverse_cons, List.reverse_cons]
    exact RpL.append (RpL.reverse h2) (RpL.cons h1 RpL.nil)
theorem Rp.ofV (v : V) : Rp K S (ofV v) v := by
  cases v <;> simp only [DL.ofV, Rp]
theorem Rp.int {i : Int} : Rp K S (.int i) (.int i) := by rw [Rp]
theorem Rp.bl {i : Bool} : Rp K S (.bl i) (.bl i) := by rw [Rp]
theorem Rp.str {i : Str} : Rp K S (.str i) (.str i) := by rw [Rp]
theorem Rp.non : Rp K S .non .non := by rw [Rp]
theorem Rp.oth {v : V} : Rp K S (.oth v) v := by rw [Rp]
theorem Rp.int_of {i : Int} {v : V} (h : Rp K S (.int i) v) : v = .int i := by rw [Rp] at h; exact h
theorem Rp.bl_of {i : Bool} {v : V} (h : Rp K S (.bl i) v) : v = .bl i := by rw [Rp] at h; exact h
theorem Rp.str_of {i : Str} {v : V} (h : Rp K S (.str i) v) : v = .str i := by rw [Rp] at h; exact h
theorem Rp.non_of {v : V} (h : Rp K S .non v) : v = .non := by rw [Rp] at h; exact h
theorem Rp.oth_of {u v : V} (h : Rp K S (.oth u) v) : v = u := by rw [Rp] at h; exact h
theorem Rp.lst {a : Addr} {xs : List V} {ds : List D} (h : S a = some (.lst xs)) (r : RpL K S ds xs) : Rp K S (.lst ds) (.ref a) := by
  rw [Rp]
  exact ⟨a, xs, rfl, h, r⟩
theorem Rp.lst_of {v : V} {ds : List D} (h : Rp K S (.lst ds) v) : ∃ a xs, v = .ref a ∧ S a = some (.lst xs) ∧ RpL K S ds xs := by rw [Rp] at h; exact h
theorem Rp.tup {a : Addr} {xs : List V} {ds : List D} (h : SqT K S a xs) (r : RpL K S ds xs) : Rp K S (.tup ds) (.ref a) := by
  rw [Rp]
  exact ⟨a, xs, rfl, h, r⟩
theorem Rp.tup_of {v : V} {ds : List D} (h : Rp K S (.tup ds) v) : ∃ a xs, v = .ref a ∧ SqT K S a xs ∧ RpL K S ds xs := by rw [Rp] at h; exact h
theorem Rp.frz {a : Addr} {xs : List V} {ds : List D} (h : SqL K S a xs) (r : RpL K S ds xs) : Rp K S (.frz ds) (.ref a) := by
  rw [Rp]
  exact ⟨a, xs, rfl, h, r⟩
theorem Rp.frz_of {v : V} {ds : List D} (h : Rp K S (.frz ds) v) : ∃ a xs, v = .ref a ∧ SqL K S a xs ∧ RpL K S ds xs := by rw [Rp] at h; exact h
end
/-- a list that is read -/
def asL : D → Option (List D)
  | .lst ds => some ds
  | .frz ds => some ds
  | _ => none
theorem Rp.asL_of {K : PySem.W.Frag} {S : Hp} {d : D} {v : V} {ds : List D} (h : Rp K S d v) (e : asL d = some ds) : ∃ a xs, v = .ref a ∧ SqL K S a xs ∧ RpL K S ds xs := by
  cases d <;> simp only [asL, Option.some.injEq, reduceCtorEq] at e
  · subst e
    obtain ⟨a, xs, e1, h1, h2⟩ := h.lst_of
    exact ⟨a, xs, e1, SqL.of h1, h2⟩
  · subst e
    exact h.frz_of

/-! ### mutable objects -/
inductive MO where
  | lst (xs : List D)
abbrev MM := Addr → Option MO
def updM (M : MM) (a : Addr) (o : MO) : MM := fun b => if b = a then some o else M b
def delM (M : MM) (a : Addr) : MM := fun b => if b = a then none else M b
theorem updM_same {M : MM} {a : Addr} {o : MO} : updM M a o a = some o := by unfold updM; rw [if_pos rfl]
theorem updM_ne {M : MM} {a b : Addr} {o : MO} (h : b ≠ a) : updM M a o b = M b := by unfold updM; rw [if_neg h]
theorem updM_get {M : MM} {a b : Addr} {o u : MO} (h : b ≠ a) (e : M b = some u) : updM M a o b = some u := (updM_ne h).trans e
theorem delM_get {M : MM} {a b : Addr} {u : MO} (h : b ≠ a) (e : M b = some u) : delM M a b = some u := by unfold delM; rw [if_neg h]; exact e
theorem updM_updM {M : MM} {a : Addr} {o u : MO} : updM (updM M a o) a u = updM M a u := by
  funext b; unfold updM; split <;> rfl
theorem delM_updM {M : MM} {a : Addr} {o : MO} (h : M a = none) : delM (updM M a o) a = M := by
  funext b; unfold delM updM; by_cases e : b = a
  · rw [if_pos e, e, h]
  · rw [if_neg e, if_neg e]
theorem mm_ne {M : MM} {a p : Addr} {o : MO} (h : M a = some o) (hp : M p = none) : a ≠ p := by
  intro e; subst e; rw [h] at hp; cases hp
def RpO (K : PySem.W.Frag) (S : Hp) : MO → HO → Prop
  | .lst ds, .lst xs => RpL K S ds xs
  | _, _ => False
theorem RpO.mono {K : PySem.W.Frag} {S S' : Hp} (e : Ex S S') {o : MO} {u : HO} (h : RpO K S o u) : RpO K S' o u := by
  cases o with
  | lst ds =>
    cases u with
    | lst xs => exact RpL.mono e _ _ h
    | _ => exact False.elim h
theorem RpO.lst_of {K : PySem.W.Frag} {S : Hp} {ds : List D} {u : HO} (h : RpO K S (.lst ds) u) : ∃ xs, u = .lst xs ∧ RpL K S ds xs := by
  cases u with
  | lst xs => exact ⟨xs, rfl, h⟩
  | _ => exact False.elim h
structure At (K : PySem.W.Frag) (S H : Hp) (M : MM) : Prop where
  ex : Ex S H
  mm : ∀ a o, M a = some o → S a = none ∧ ∃ u, H a = some u ∧ RpO K S o u
section
variable {K : PySem.W.Frag} {S S' H H' : Hp} {M : MM}
theorem At.free (A : At K S H M) {p : Addr} (h : H p = none) : M p = none := by
  cases e : M p with
  | none => rfl
  | some o =>
    obtain ⟨_, u, e2, _⟩ := A.mm p o e
    rw [h] at e2
    cases e2
theorem At.freeS (A : At K S H M) {p : Addr} (h : H p = none) : S p = none := fresh_back A.ex h
/-- a new frozen object -/
theorem At.new (A : At K S H M) {p : Addr} (h : H p = none) (o : HO) : At K (upd S p o) (upd H p o) M ∧ Ex S (upd S p o) := by
  have e : Ex S (upd S p o) := Ex.new (A.freeS h)
  refine ⟨⟨fun b u eb => ?_, fun a m em => ?_⟩, e⟩
  · by_cases hb : b = p
    · subst hb; rw [upd_same] at eb ⊢; exact eb
    · rw [upd_ne hb] at eb ⊢; exact A.ex b u eb
  · obtain ⟨h1, u, h2, h3⟩ := A.mm a m em
    have ne : a ≠ p := ne_of_none h2 h
    exact ⟨by rw [upd_ne ne]; exact h1, u, by rw [upd_ne ne]; exact h2, h3.mono e⟩
/-- a new mutable object -/
theorem At.newM (A : At K S H M) {p : Addr} (h : H p = none) {o : HO} {m : MO} (r : RpO K S m o) : At K S (upd H p o) (updM M p m) := by
  refine ⟨fun b u eb => ?_, fun a m' em => ?_⟩
  · rw [upd_ne (ne_of_none (A.ex b u eb) h)]; exact A.ex b u eb
  · by_cases ha : a = p
    · subst ha; rw [updM_same] at em; cases em
      exact ⟨A.freeS h, o, upd_same, r⟩
    · rw [updM_ne ha] at em
      obtain ⟨h1, u, h2, h3⟩ := A.mm a m' em
      exact ⟨h1, u, by rw [upd_ne ha]; exact h2, h3⟩
/-- a mutable object changes -/
theorem At.put (A : At K S H M) {p : Addr} {m0 : MO} (h : M p = some m0) {o : HO} {m : MO} (r : RpO K S m o) : At K S (upd H p o) (updM M p m) := by
  obtain ⟨hS, _⟩ := A.mm p m0 h
  refine ⟨fun b u eb => ?_, fun a m' em => ?_⟩
  · rw [upd_ne (ne_of_none eb hS)]; exact A.ex b u eb
  · by_cases ha : a = p
    · subst ha; rw [updM_same] at em; cases em
      exact ⟨hS, o, upd_same, r⟩
    · rw [updM_ne ha] at em
      obtain ⟨h1, u, h2, h3⟩ := A.mm a m' em
      exact ⟨h1, u, by rw [upd_ne ha]; exact h2, h3⟩
/-- a mutable object is frozen -/
theorem At.freeze (A : At K S H M) {p : Addr} {m : MO} (h : M p = some m) : ∃ S' o, At K S' H (delM M p) ∧ Ex S S' ∧ S' p = some o ∧ RpO K S m o := by
  obtain ⟨hS, o, hH, r⟩ := A.mm p m h
  have e : Ex S (upd S p o) := Ex.new hS
  refine ⟨upd S p o, o, ⟨fun b u eb => ?_, fun a m' em => ?_⟩, e, upd_same, r⟩
  · by_cases hb : b = p
    · subst hb; rw [upd_same] at eb; cases eb; exact hH
    · rw [upd_ne hb] at eb; exact A.ex b u eb
  · unfold delM at em
    by_cases ha : a = p
    · rw [if_pos ha] at em; cases em
    · rw [if_neg ha] at em
      obtain ⟨h1, u, h2, h3⟩ := A.mm a m' em
      exact ⟨by rw [upd_ne ha]; exact h1, u, h2, h3.mono e⟩
/-- fewer mutable objects -/
theorem At.less (A : At K S H M) {M' : MM} (h : ∀ a o, M' a = some o → M a = some o) : At K S H M' := ⟨A.ex, fun a o e => A.mm a o (h a o e)⟩
end
/-! ### slots -/
def RpS (K : PySem.W.Frag) (S : Hp) : List (Option D) → St → Prop
  | [], σ => σ = []
  | none :: ρ, σ => ∃ x r, σ = x :: r ∧ RpS K S ρ r
  | some d :: ρ, σ => ∃ v r, σ = some v :: r ∧ Rp K S d v ∧ RpS K S ρ r
section
variable {K : PySem.W.Frag} {S S' H H' : Hp} {M : MM}
theorem RpS.mono (e : Ex S S') : ∀ {ρ : List (Option D)} {σ : St}, RpS K S ρ σ → RpS K S' ρ σ
  | [], σ, h => h
  | none :: ρ, σ, h => by
    obtain ⟨x, r, e1, h1⟩ := h
    exact ⟨x, r, e1, RpS.mono e h1⟩
  | some d :: ρ, σ, h => by
    obtain ⟨x, r, e1, h0, h1⟩ := h
    exact ⟨x, r, e1, h0.mono e, RpS.mono e h1⟩
theorem RpS.get : ∀ {ρ : List (Option D)} {σ : St} {i : Nat} {d : D}, RpS K S ρ σ → ρ[i]? = some (some d) → ∃ v, σ[i]? = some (some v) ∧ Rp K S d v
  | [], σ, i, d, h, e => by simp at e
  | none :: ρ, σ, 0, d, h, e => by simp at e
  | some d' :: ρ, σ, 0, d, h, e => by
    obtain ⟨v, r, rfl, h1, _⟩ := h
    simp at e
    subst e
    exact ⟨v, rfl, h1⟩
  | none :: ρ, σ, i + 1, d, h, e => by
    obtain ⟨x, r, rfl, h1⟩ := h
    obtain ⟨v, e', h'⟩ := RpS.get (i := i) h1 (by simpa using e)
    exact ⟨v, by simpa using e', h'⟩
  | some d' :: ρ, σ, i + 1, d, h, e => by
    obtain ⟨x, r, rfl, _, h1⟩ := h
    obtain ⟨v, e', h'⟩ := RpS.get (i := i) h1 (by simpa using e)
    exact ⟨v, by simpa using e', h'⟩
theorem RpS.set : ∀ {ρ : List (Option D)} {σ : St} (i : Nat) {d : D} {v : V}, RpS K S ρ σ → Rp K S d v → RpS K S (ρ.set i (some d)) (σ.set i (some v))
  | [], σ, i, d, v, h, k => by
    have h : σ = [] := h
    subst h
    rfl
  | none :: ρ, σ, 0, d, v, h, k => by
    obtain ⟨x, r, rfl, h1⟩ := h
    exact ⟨v, r, rfl, k, h1⟩
  | some d' :: ρ, σ, 0, d, v, h, k => by
    obtain ⟨x, r, rfl, _, h1⟩ := h
    exact ⟨v, r, rfl, k, h1⟩
  | none :: ρ, σ, i + 1, d, v, h, k => by
    obtain ⟨x, r, rfl, h1⟩ := h
    exact ⟨x, r.set i (some v), rfl, RpS.set i h1 k⟩
  | some d' :: ρ, σ, i + 1, d, v, h, k => by
    obtain ⟨x, r, rfl, h0, h1⟩ := h
    exact ⟨x, r.set i (some v), rfl, h0, RpS.set i h1 k⟩
/-- a slot is told anew -/
theorem RpS.say : ∀ {ρ : List (Option D)} {σ : St} (i : Nat) {d : D} {v : V}, RpS K S ρ σ → σ[i]? = some (some v) → Rp K S d v → RpS K S (ρ.set i (some d)) σ
  | [], σ, i, d, v, h, _, k => h
  | none :: ρ, σ, 0, d, v, h, e, k => by
    obtain ⟨x, r, rfl, h1⟩ := h
    simp at e
    subst e
    exact ⟨v, r, rfl, k, h1⟩
  | some d' :: ρ, σ, 0, d, v, h, e, k => by
    obtain ⟨x, r, rfl, _, h1⟩ := h
    simp at e
    subst e
    exact ⟨x, r, rfl, k, h1⟩
  | none :: ρ, σ, i + 1, d, v, h, e, k => by
    obtain ⟨x, r, rfl, h1⟩ := h
    exact ⟨x, r, rfl, RpS.say i h1 (by simpa using e) k⟩
  | some d' :: ρ, σ, i + 1, d, v, h, e, k => by
    obtain ⟨x, r, rfl, h0, h1⟩ := h
    exact ⟨x, r, rfl, h0, RpS.say i h1 (by simpa using e) k⟩
/-- a slot is forgotten -/
theorem RpS.drop : ∀ {ρ : List (Option D)} {σ : St} (i : Nat), RpS K S ρ σ → RpS K S (ρ.set i none) σ
  | [], σ, i, h => h
  | none :: ρ, σ, 0, h => h
  | some d' :: ρ, σ, 0, h => by
    obtain ⟨x, r, rfl, _, h1⟩ := h
    exact ⟨some x, r, rfl, h1⟩
  | none :: ρ, σ, i + 1, h => by
    obtain ⟨x, r, rfl, h1⟩ := h
    exact ⟨x, r, rfl, RpS.drop i h1⟩
  | some d' :: ρ, σ, i + 1, h => by
    obtain ⟨x, r, rfl, h0, h1⟩ := h
    exact ⟨x, r, rfl, h0, RpS.drop i h1⟩
theorem RpS.setN : ∀ {ρ : List (Option D)} {σ : St} (i : Nat), RpS K S ρ σ → RpS K S (ρ.set i none) (σ.set i none)
  | [], σ, i, h => by
    have h : σ = [] := h
    subst h
    rfl
  | none :: ρ, σ, 0, h => by
    obtain ⟨x, r, rfl, h1⟩ := h
    exact ⟨_, r, rfl, h1⟩
  | some d' :: ρ, σ, 0, h => by
    obtain ⟨x, r, rfl, _, h1⟩ := h
    exact ⟨_, r, rfl, h1⟩
  | none :: ρ, σ, i + 1, h => by
    obtain ⟨x, r, rfl, h1⟩ := h
    exact ⟨x, r.set i none, rfl, RpS.setN i h1⟩
  | some d' :: ρ, σ, i + 1, h => by
    obtain ⟨x, r, rfl, h0, h1⟩ := h
    exact ⟨x, r.set i none, rfl, h0, RpS.setN i h1⟩
theorem RpS.start : ∀ {ds : List D} {vs : List V} (n : Nat), RpL K S ds vs → RpS K S (ds.map some ++ List.replicate n none) (vs.map some ++ List.replicate n none)
  | [], vs, n, h => by
    rw [h.nil_of]
    simp only [List.map_nil, List.nil_append]
    induction n with
    | zero => rfl
    | succ n ih =>
      rw [List.replicate_succ, List.replicate_succ]
      exact ⟨_, _, rfl, ih⟩
  | d :: ds, vs, n, h => by
    obtain ⟨v, r, rfl, h1, h2⟩ := h.cons_of
    exact ⟨v, _, rfl, h1, RpS.start n h2⟩
end
end DL

namespace DL
open PySem L2 Evl
structure Sd where
  ρ : List (Option D)
  M : MM
/-- an expression's reading, over data -/
def Ed (K : PySem.W.Frag) (t : TE) (s : Sd) (Q : D → Sd → Prop) : Prop :=
  ∀ (S H : Hp) (σ : St), At K S H s.M → RpS K S s.ρ σ → ∀ R : VK, (∀ d s' v S' H', Q d s' → Ex S S' → At K S' H' s'.M → RpS K S' s'.ρ σ → Rp K S' d v → R v H') → t σ H R
def Et (K : PySem.W.Frag) (t : TT) (s : Sd) (Q : Bool → Sd → Prop) : Prop :=
  ∀ (S H : Hp) (σ : St), At K S H s.M → RpS K S s.ρ σ → ∀ R : Bool → Hp → Prop, (∀ b s' S' H', Q b s' → Ex S S' → At K S' H' s'.M → RpS K S' s'.ρ σ → R b H') → t σ H R
def Ea (K : PySem.W.Frag) (t : TA) (s : Sd) (Q : List D → Sd → Prop) : Prop :=
  ∀ (S H : Hp) (σ : St), At K S H s.M → RpS K S s.ρ σ → ∀ R : List V → Hp → Prop, (∀ ds s' vs S' H', Q ds s' → Ex S S' → At K S' H' s'.M → RpS K S' s'.ρ σ → RpL K S' ds vs → R vs H') → t σ H R
def Eo (K : PySem.W.Frag) (t : TO) (s : Sd) (Q : Option Int → Sd → Prop) : Prop :=
  ∀ (S H : Hp) (σ : St), At K S H s.M → RpS K S s.ρ σ → ∀ R : Option Int → Hp → Prop, (∀ o s' S' H', Q o s' → Ex S S' → At K S' H' s'.M → RpS K S' s'.ρ σ → R o H') → t σ H R
structure Pd where
  nx : Sd → Prop
  rt : D → MM → Prop
  bk : Sd → Prop := fun _ => False
  ct : Sd → Prop := fun _ => False
structure Lk (K : PySem.W.Frag) (S : Hp) (P : Pd) (N : Ends) : Prop where
  nx : ∀ s' S' H' σ', P.nx s' → Ex S S' → At K S' H' s'.M → RpS K S' s'.ρ σ' → N.nx σ' H'
  rt : ∀ d M' v S' H', P.rt d M' → Ex S S' → At K S' H' M' → Rp K S' d v → N.rt v H'
  bk : ∀ s' S' H' σ', P.bk s' → Ex S S' → At K S' H' s'.M → RpS K S' s'.ρ σ' → N.bk σ' H'
  ct : ∀ s' S' H' σ', P.ct s' → Ex S S' → At K S' H' s'.M → RpS K S' s'.ρ σ' → N.ct σ' H'
theorem Lk.mono {K : PySem.W.Frag} {S S' : Hp} {P : Pd} {N : Ends} (l : Lk K S P N) (e : Ex S S') : Lk K S' P N :=
  ⟨fun s' S2 H' σ' h e2 => l.nx s' S2 H' σ' h (e.trans e2), fun d M' v S2 H' h e2 => l.rt d M' v S2 H' h (e.trans e2), fun s' S2 H' σ' h e2 => l.bk s' S2 H' σ' h (e.trans e2), fun s' S2 H' σ' h e2 => l.ct s' S2 H' σ' h (e.trans e2)⟩
/-- a statement's reading, over data -/
def Es (K : PySem.W.Frag) (t : TS) (s : Sd) (P : Pd) : Prop :=
  ∀ (S H : Hp) (σ : St) (N : Ends), At K S H s.M → RpS K S s.ρ σ → Lk K S P N → t N σ H
/-- a target's -/
def Eg (K : PySem.W.Frag) (g : TG) (d : D) (s : Sd) (Q : Sd → Prop) : Prop :=
  ∀ (S H : Hp) (σ : St) (v : V), At K S H s.M → RpS K S s.ρ σ → Rp K S d v → ∀ R : St → Hp → Prop, (∀ s' S' H' σ', Q s' → Ex S S' → At K S' H' s'.M → RpS K S' s'.ρ σ' → R σ' H') → g v σ H R
def Egs (K : PySem.W.Frag) (g : TGs) (ds : List D) (s : Sd) (Q : Sd → Prop) : Prop :=
  ∀ (S H : Hp) (σ : St) (vs : List V), At K S H s.M → RpS K S s.ρ σ → RpL K S ds vs → ∀ R : St → Hp → Prop, (∀ s' S' H' σ', Q s' → Ex S S' → At K S' H' s'.M → RpS K S' s'.ρ σ' → R σ' H') → g vs σ H R

section
variable {K : PySem.W.Frag} {s : Sd} {Q : D → Sd → Prop} {ta tb te : TE} {t u : TT} {d : D} {v : V}
theorem Ed.imp {Q' : D → Sd → Prop} (h : Ed K te s Q) (q : ∀ d s, Q d s → Q' d s) : Ed K te s Q' := fun S H σ A r R k => h S H σ A r R fun d s' v S' H' h => k d s' v S' H' (q d s' h)
theorem Et.imp {Q Q' : Bool → Sd → Prop} (h : Et K t s Q) (q : ∀ d s, Q d s → Q' d s) : Et K t s Q' := fun S H σ A r R k => h S H σ A r R fun d s' S' H' h => k d s' S' H' (q d s' h)
theorem Ea.imp {ta : TA} {Q Q' : List D → Sd → Prop} (h : Ea K ta s Q) (q : ∀ d s, Q d s → Q' d s) : Ea K ta s Q' := fun S H σ A r R k => h S H σ A r R fun d s' v S' H' h => k d s' v S' H' (q d s' h)
theorem Es.imp {ts : TS} {P P' : Pd} (h : Es K ts s P) (h1 : ∀ s, P.nx s → P'.nx s) (h2 : ∀ d M, P.rt d M → P'.rt d M) (h3 : ∀ s, P.bk s → P'.bk s) (h4 : ∀ s, P.ct s → P'.ct s) : Es K ts s P' := fun S H σ N A r l =>
  h S H σ N A r ⟨fun s' S' H' σ' h => l.nx s' S' H' σ' (h1 _ h), fun d M' v S' H' h => l.rt d M' v S' H' (h2 _ _ h), fun s' S' H' σ' h => l.bk s' S' H' σ' (h3 _ h), fun s' S' H' σ' h => l.ct s' S' H' σ' (h4 _ h)⟩
theorem ed_var {i : Nat} (h : s.ρ[i]? = some (some d)) (q : Q d s) : Ed K (tVar i) s Q := fun S H σ A r R k => by
  obtain ⟨v, e, hv⟩ := r.get h
  exact ⟨v, e, k d s v S H q (Ex.refl S) A r hv⟩
theorem ed_c (q : Q (ofV v) s) : Ed K (tC v) s Q := fun S H σ A r R k => k _ s v S H q (Ex.refl S) A r (Rp.ofV v)
theorem ed_c' (hd : ∀ S, Rp K S d v) (q : Q d s) : Ed K (tC v) s Q := fun S H σ A r R k => k _ s v S H q (Ex.refl S) A r (hd S)
/-- a slot that holds a mutable list is frozen, and read -/
theorem ed_varF {i : Nat} {a : Addr} {ds : List D} (h : s.ρ[i]? = some (some (.adr a))) (hm : s.M a = some (.lst ds)) (q : Q (.lst ds) ⟨s.ρ.set i (some (.lst ds)), delM s.M a⟩) : Ed K (tVar i) s Q := fun S H σ A r R k => by
  obtain ⟨v, e, hv⟩ := r.get h
  obtain rfl := hv.oth_of
  obtain ⟨S', o, A', e', ho, ro⟩ := A.freeze hm
  obtain ⟨xs, rfl, rx⟩ := ro.lst_of
  exact ⟨_, e, k (.lst ds) ⟨s.ρ.set i (some (.lst ds)), delM s.M a⟩ _ S' H q e' A' ((r.mono e').say i e (Rp.lst ho (RpL.mono e' _ _ rx))) (Rp.lst ho (RpL.mono e' _ _ rx))⟩
/-- int operators -/
theorem ed_opI {C : Int → Int → Prop} {g : Int → Int → V} (h : Ed K ta s fun x s1 => Ed K tb s1 fun y s2 => ∃ i j, x = .int i ∧ y = .int j ∧ C i j ∧ Q (ofV (g i j)) s2) : Ed K (tOp (rI C g) ta tb) s Q := fun S H σ A r R k =>
  h S H σ A r _ fun x s1 v S1 H1 h1 e1 A1 r1 rx => h1 S1 H1 σ A1 r1 _ fun y s2 w S2 H2 h2 e2 A2 r2 ry => by
    obtain ⟨i, j, rfl, rfl, hc, q⟩ := h2
    exact ⟨i, j, (rx.mono e2).int_of, ry.int_of, hc, k _ s2 _ S2 H2 q (e1.trans e2) A2 r2 (Rp.ofV _)⟩
theorem ed_opI0 {g : Int → Int → V} (h : Ed K ta s fun x s1 => Ed K tb s1 fun y s2 => ∃ i j, x = .int i ∧ y = .int j ∧ Q (ofV (g i j)) s2) : Ed K (tOp (rI0 g) ta tb) s Q := fun S H σ A r R k =>
  h S H σ A r _ fun x s1 v S1 H1 h1 e1 A1 r1 rx => h1 S1 H1 σ A1 r1 _ fun y s2 w S2 H2 h2 e2 A2 r2 ry => by
    obtain ⟨i, j, rfl, rfl, q⟩ := h2
    exact ⟨i, j, (rx.mono e2).int_of, ry.int_of, k _ s2 _ S2 H2 q (e1.trans e2) A2 r2 (Rp.ofV _)⟩
/-- any operator on scalars -/
theorem ed_opV {r : R2} (h : Ed K ta s fun x s1 => Ed K tb s1 fun y s2 => ∃ v w, (∀ S u, Rp K S x u → u = v) ∧ (∀ S u, Rp K S y u → u = w) ∧ ∃ z, (∀ (H : Hp) (R : VK), R z H → r v w H R) ∧ Q (ofV z) s2) : Ed K (tOp r ta tb) s Q := fun S H σ A rr R k =>
  h S H σ A rr _ fun x s1 v S1 H1 h1 e1 A1 r1 rx => h1 S1 H1 σ A1 r1 _ fun y s2 w S2 H2 h2 e2 A2 r2 ry => by
    obtain ⟨v', w', hx, hy, z, hr, q⟩ := h2
    rw [hx _ _ rx, hy _ _ ry]
    exact hr H2 R (k _ s2 _ S2 H2 q (e1.trans e2) A2 r2 (Rp.ofV _))
theorem ed_un {g : Int → V} (h : Ed K ta s fun x s1 => ∃ i, x = .int i ∧ Q (ofV (g i)) s1) : Ed K (tUn (rU g) ta) s Q := fun S H σ A r R k =>
  h S H σ A r _ fun x s1 v S1 H1 h1 e1 A1 r1 rx => by
    obtain ⟨i, rfl, q⟩ := h1
    exact ⟨i, rx.int_of, k _ s1 _ S1 H1 q e1 A1 r1 (Rp.ofV _)⟩
/-- == and != of ints, of texts, of bools -/
theorem ed_eqI (h : Ed K ta s fun x s1 => Ed K tb s1 fun y s2 => ∃ i j, x = .int i ∧ y = .int j ∧ Q (.bl (decide (i = j))) s2) : Ed K (tOp rEq ta tb) s Q := fun S H σ A r R k =>
  h S H σ A r _ fun x s1 v S1 H1 h1 e1 A1 r1 rx => h1 S1 H1 σ A1 r1 _ fun y s2 w S2 H2 h2 e2 A2 r2 ry => by
    obtain ⟨i, j, rfl, rfl, q⟩ := h2
    rw [(rx.mono e2).int_of, ry.int_of]
    refine ⟨rfl, k _ s2 _ S2 H2 q (e1.trans e2) A2 r2 ?_⟩
    rw [show decide (V.int i = V.int j) = decide (i = j) from by simp]
    exact Rp.bl
theorem ed_neI (h : Ed K ta s fun x s1 => Ed K tb s1 fun y s2 => ∃ i j, x = .int i ∧ y = .int j ∧ Q (.bl (!decide (i = j))) s2) : Ed K (tOp rNe ta tb) s Q := fun S H σ A r R k =>
  h S H σ A r _ fun x s1 v S1 H1 h1 e1 A1 r1 rx => h1 S1 H1 σ A1 r1 _ fun y s2 w S2 H2 h2 e2 A2 r2 ry => by
    obtain ⟨i, j, rfl, rfl, q⟩ := h2
    rw [(rx.mono e2).int_of, ry.int_of]
    refine ⟨rfl, k _ s2 _ S2 H2 q (e1.trans e2) A2 r2 ?_⟩
    rw [show decide (V.int i = V.int j) = decide (i = j) from by simp]
    exact Rp.bl
theorem ed_eqS (h : Ed K ta s fun x s1 => Ed K tb s1 fun y s2 => ∃ i j, x = .str i ∧ y = .str j ∧ Q (.bl (decide (i = j))) s2) : Ed K (tOp rEq ta tb) s Q := fun S H σ A r R k =>
  h S H σ A r _ fun x s1 v S1 H1 h1 e1 A1 r1 rx => h1 S1 H1 σ A1 r1 _ fun y s2 w S2 H2 h2 e2 A2 r2 ry => by
    obtain ⟨i, j, rfl, rfl, q⟩ := h2
    rw [(rx.mono e2).str_of, ry.str_of]
    refine ⟨rfl, k _ s2 _ S2 H2 q (e1.trans e2) A2 r2 ?_⟩
    rw [show decide (V.str i = V.str j) = decide (i = j) from by simp]
    exact Rp.bl
theorem ed_neS (h : Ed K ta s fun x s1 => Ed K tb s1 fun y s2 => ∃ i j, x = .str i ∧ y = .str j ∧ Q (.bl (!decide (i = j))) s2) : Ed K (tOp rNe ta tb) s Q := fun S H σ A r R k =>
  h S H σ A r _ fun x s1 v S1 H1 h1 e1 A1 r1 rx => h1 S1 H1 σ A1 r1 _ fun y s2 w S2 H2 h2 e2 A2 r2 ry => by
    obtain ⟨i, j, rfl, rfl, q⟩ := h2
    rw [(rx.mono e2).str_of, ry.str_of]
    refine ⟨rfl, k _ s2 _ S2 H2 q (e1.trans e2) A2 r2 ?_⟩
    rw [show decide (V.str i = V.str j) = decide (i = j) from by simp]
    exact Rp.bl
/-- is None, by whether the datum is None -/
def isN : D → Bool
  | .non => true
  | .oth v => decide (v = .non)
  | _ => false
theorem Rp.isN_of {S : Hp} (h : Rp K S d v) : decide (v = .non) = isN d := by
  cases d with
  | non => rw [h.non_of]; rfl
  | bl b => rw [h.bl_of]; rfl
  | int i => rw [h.int_of]; rfl
  | str x => rw [h.str_of]; rfl
  | lst ds => obtain ⟨a, xs, rfl, _⟩ := h.lst_of; rfl
  | frz ds => obtain ⟨a, xs, rfl, _⟩ := h.frz_of; rfl
  | tup ds => obtain ⟨a, xs, rfl, _⟩ := h.tup_of; rfl
  | oth u => rw [h.oth_of]; rfl
theorem ed_isN (h : Ed K ta s fun x s1 => Q (.bl (isN x)) s1) : Ed K (tIsN ta) s Q := fun S H σ A r R k =>
  h S H σ A r _ fun x s1 v S1 H1 h1 e1 A1 r1 rx => by
    show R (.bl (decide (v = .non))) H1
    rw [rx.isN_of]
    exact k _ s1 _ S1 H1 h1 e1 A1 r1 Rp.bl
theorem ed_notN (h : Ed K ta s fun x s1 => Q (.bl (!isN x)) s1) : Ed K (tNotN ta) s Q := fun S H σ A r R k =>
  h S H σ A r _ fun x s1 v S1 H1 h1 e1 A1 r1 rx => by
    show R (.bl (!decide (v = .non))) H1
    rw [rx.isN_of]
    exact k _ s1 _ S1 H1 h1 e1 A1 r1 Rp.bl
/-- tests -/
theorem et_test {Q : Bool → Sd → Prop} (h : Ed K te s fun x s1 => ∃ b, x = .bl b ∧ Q b s1) : Et K (tTest te) s Q := fun S H σ A r R k =>
  h S H σ A r _ fun x s1 v S1 H1 h1 e1 A1 r1 rx => by
    obtain ⟨b, rfl, q⟩ := h1
    exact ⟨b, rx.bl_of, k b s1 S1 H1 q e1 A1 r1⟩
theorem et_B {Q : Bool → Sd → Prop} (h : Ed K te s fun x s1 => ∃ b, x = .bl b ∧ Q b s1) : Et K (tB te) s Q := fun S H σ A r R k =>
  h S H σ A r _ fun x s1 v S1 H1 h1 e1 A1 r1 rx => by
    obtain ⟨b, rfl, q⟩ := h1
    exact ⟨b, rx.bl_of, k b s1 S1 H1 q e1 A1 r1⟩
theorem et_and {Q : Bool → Sd → Prop} (h : Et K t s fun b s1 => (b = true → Et K u s1 Q) ∧ (b = false → Q false s1)) : Et K (tAnd t u) s Q := fun S H σ A r R k =>
  h S H σ A r _ fun b s1 S1 H1 h1 e1 A1 r1 => by
    cases b with
    | true => exact h1.1 rfl S1 H1 σ A1 r1 _ fun b s2 S2 H2 q e2 => k b s2 S2 H2 q (e1.trans e2)
    | false => exact k false s1 S1 H1 (h1.2 rfl) e1 A1 r1
theorem et_or {Q : Bool → Sd → Prop} (h : Et K t s fun b s1 => (b = true → Q true s1) ∧ (b = false → Et K u s1 Q)) : Et K (tOr t u) s Q := fun S H σ A r R k =>
  h S H σ A r _ fun b s1 S1 H1 h1 e1 A1 r1 => by
    cases b with
    | false => exact h1.2 rfl S1 H1 σ A1 r1 _ fun b s2 S2 H2 q e2 => k b s2 S2 H2 q (e1.trans e2)
    | true => exact k true s1 S1 H1 (h1.1 rfl) e1 A1 r1
theorem et_not {Q : Bool → Sd → Prop} (h : Et K t s fun b s1 => Q (!b) s1) : Et K (tNot t) s Q := fun S H σ A r R k =>
  h S H σ A r _ fun b s1 S1 H1 h1 e1 A1 r1 => k (!b) s1 S1 H1 h1 e1 A1 r1
theorem ed_andV (h : Ed K ta s fun x s1 => ∃ b, x = .bl b ∧ (b = true → Ed K tb s1 Q) ∧ (b = false → Q (.bl false) s1)) : Ed K (tAndV ta tb) s Q := fun S H σ A r R k =>
  h S H σ A r _ fun x s1 v S1 H1 h1 e1 A1 r1 rx => by
    obtain ⟨b, rfl, h2, h3⟩ := h1
    refine ⟨b, rx.bl_of, ?_⟩
    cases b with
    | true => exact h2 rfl S1 H1 σ A1 r1 _ fun d s2 v S2 H2 q e2 => k d s2 v S2 H2 q (e1.trans e2)
    | false => exact k _ s1 _ S1 H1 (h3 rfl) e1 A1 r1 Rp.bl
theorem ed_orV (h : Ed K ta s fun x s1 => ∃ b, x = .bl b ∧ (b = true → Q (.bl true) s1) ∧ (b = false → Ed K tb s1 Q)) : Ed K (tOrV ta tb) s Q := fun S H σ A r R k =>
  h S H σ A r _ fun x s1 v S1 H1 h1 e1 A1 r1 rx => by
    obtain ⟨b, rfl, h2, h3⟩ := h1
    refine ⟨b, rx.bl_of, ?_⟩
    cases b with
    | false => exact h3 rfl S1 H1 σ A1 r1 _ fun d s2 v S2 H2 q e2 => k d s2 v S2 H2 q (e1.trans e2)
    | true => exact k _ s1 _ S1 H1 (h2 rfl) e1 A1 r1 Rp.bl
theorem ed_notV (h : Ed K ta s fun x s1 => ∃ b, x = .bl b ∧ Q (.bl (!b)) s1) : Ed K (tNotV ta) s Q := fun S H σ A r R k =>
  h S H σ A r _ fun x s1 v S1 H1 h1 e1 A1 r1 rx => by
    obtain ⟨b, rfl, q⟩ := h1
    exact ⟨b, rx.bl_of, k _ s1 _ S1 H1 q e1 A1 r1 Rp.bl⟩
theorem ed_if (h : Et K t s fun b s1 => (b = true → Ed K ta s1 Q) ∧ (b = false → Ed K tb s1 Q)) : Ed K (tIf t ta tb) s Q := fun S H σ A r R k =>
  h S H σ A r _ fun b s1 S1 H1 h1 e1 A1 r1 => by
    cases b with
    | true => exact h1.1 rfl S1 H1 σ A1 r1 _ fun b s2 v S2 H2 q e2 => k b s2 v S2 H2 q (e1.trans e2)
    | false => exact h1.2 rfl S1 H1 σ A1 r1 _ fun b s2 v S2 H2 q e2 => k b s2 v S2 H2 q (e1.trans e2)
/-- arguments -/
theorem ea_nil {Q : List D → Sd → Prop} (q : Q [] s) : Ea K tNil s Q := fun S H σ A r R k => k [] s [] S H q (Ex.refl S) A r RpL.nil
theorem ea_cons {tr : TA} {Q : List D → Sd → Prop} (h : Ed K ta s fun x s1 => Ea K tr s1 fun xs s2 => Q (x :: xs) s2) : Ea K (tCons ta tr) s Q := fun S H σ A r R k =>
  h S H σ A r _ fun x s1 v S1 H1 h1 e1 A1 r1 rx => h1 S1 H1 σ A1 r1 _ fun xs s2 vs S2 H2 h2 e2 A2 r2 rxs => k _ s2 _ S2 H2 h2 (e1.trans e2) A2 r2 (RpL.cons (rx.mono e2) rxs)
/-- displays: frozen, mutable -/
theorem ed_lst {tr : TA} (h : Ea K tr s fun xs s1 => xs.length ≤ sizeLine ∧ Q (.lst xs) s1) : Ed K (tLst tr) s Q := fun S H σ A r R k =>
  h S H σ A r _ fun xs s1 vs S1 H1 h1 e1 A1 r1 rx => ⟨by rw [← rx.length]; exact h1.1, fun p hp => by
    obtain ⟨A2, e2⟩ := A1.new hp (.lst vs)
    exact k _ s1 _ _ _ h1.2 (e1.trans e2) A2 (r1.mono e2) (Rp.lst upd_same (RpL.mono e2 _ _ rx))⟩
theorem ed_lstM {tr : TA} (h : Ea K tr s fun xs s1 => xs.length ≤ sizeLine ∧ ∀ p, s1.M p = none → Q (.adr p) ⟨s1.ρ, updM s1.M p (.lst xs)⟩) : Ed K (tLst tr) s Q := fun S H σ A r R k =>
  h S H σ A r _ fun xs s1 vs S1 H1 h1 e1 A1 r1 rx => ⟨by rw [← rx.length]; exact h1.1, fun p hp => by
    have A2 := A1.newM hp (o := .lst vs) (m := .lst xs) rx
    exact k _ ⟨s1.ρ, updM s1.M p (.lst xs)⟩ _ _ _ (h1.2 p (A1.free hp)) e1 A2 r1 Rp.oth⟩
theorem ed_tup {tr : TA} (h : Ea K tr s fun xs s1 => xs.length ≤ sizeLine ∧ Q (.tup xs) s1) : Ed K (tTup tr) s Q := fun S H σ A r R k =>
  h S H σ A r _ fun xs s1 vs S1 H1 h1 e1 A1 r1 rx => ⟨by rw [← rx.length]; exact h1.1, fun p hp => by
    obtain ⟨A2, e2⟩ := A1.new hp (.tup vs)
    exact k _ s1 _ _ _ h1.2 (e1.trans e2) A2 (r1.mono e2) (Rp.tup (SqT.of upd_same) (RpL.mono e2 _ _ rx))⟩
/-- subscripts -/
theorem atI_map {ds : List D} {vs : List V} {S : Hp} {i : Int} (r : RpL K S ds vs) (h : atI ds i = some d) : ∃ v, atI vs i = some v ∧ Rp K S d v := by
  unfold atI at h ⊢
  rw [← r.length]
  cases e : ixN ds.length i with
  | none => rw [e] at h; cases h
  | some j =>
    rw [e] at h
    exact r.getD h
theorem ed_ixL (h : Ed K ta s fun x s1 => Ed K tb s1 fun y s2 => ∃ xs i d, asL x = some xs ∧ y = .int i ∧ atI xs i = some d ∧ Q d s2) : Ed K (tOp (rIxL K) ta tb) s Q := fun S H σ A r R k =>
  h S H σ A r _ fun x s1 v S1 H1 h1 e1 A1 r1 rx => h1 S1 H1 σ A1 r1 _ fun y s2 w S2 H2 h2 e2 A2 r2 ry => by
    obtain ⟨xs, i, d, hx, rfl, hd, q⟩ := h2
    obtain ⟨a, vs, rfl, hl, rl⟩ := (rx.mono e2).asL_of hx
    obtain ⟨v', hv, rv⟩ := atI_map rl hd
    exact ⟨a, vs, i, v', rfl, ry.int_of, ex_l A2.ex hl, hv, k _ s2 _ S2 H2 q (e1.trans e2) A2 r2 rv⟩
theorem ed_ixT (h : Ed K ta s fun x s1 => Ed K tb s1 fun y s2 => ∃ xs i d, x = .tup xs ∧ y = .int i ∧ atI xs i = some d ∧ Q d s2) : Ed K (tOp (rIxT K) ta tb) s Q := fun S H σ A r R k =>
  h S H σ A r _ fun x s1 v S1 H1 h1 e1 A1 r1 rx => h1 S1 H1 σ A1 r1 _ fun y s2 w S2 H2 h2 e2 A2 r2 ry => by
    obtain ⟨xs, i, d, rfl, rfl, hd, q⟩ := h2
    obtain ⟨a, vs, rfl, hl, rl⟩ := (rx.mono e2).tup_of
    obtain ⟨v', hv, rv⟩ := atI_map rl hd
    exact ⟨a, vs, i, v', rfl, ry.int_of, ex_t A2.ex hl, hv, k _ s2 _ S2 H2 q (e1.trans e2) A2 r2 rv⟩
/-- of a mutable list -/
theorem ed_ixM (h : Ed K ta s fun x s1 => Ed K tb s1 fun y s2 => ∃ a xs i d, x = .adr a ∧ s2.M a = some (.lst xs) ∧ y = .int i ∧ atI xs i = some d ∧ Q d s2) : Ed K (tOp (rIxL K) ta tb) s Q := fun S H σ A r R k =>
  h S H σ A r _ fun x s1 v S1 H1 h1 e1 A1 r1 rx => h1 S1 H1 σ A1 r1 _ fun y s2 w S2 H2 h2 e2 A2 r2 ry => by
    obtain ⟨a, xs, i, d, rfl, hm, rfl, hd, q⟩ := h2
    obtain rfl := rx.oth_of
    obtain ⟨_, u, hu, ro⟩ := A2.mm a _ hm
    obtain ⟨vs, rfl, rl⟩ := ro.lst_of
    obtain ⟨v', hv, rv⟩ := atI_map rl hd
    exact ⟨a, vs, i, v', rfl, ry.int_of, SqL.of hu, hv, k _ s2 _ S2 H2 q (e1.trans e2) A2 r2 rv⟩
/-- slices -/
theorem eo_none {Q : Option Int → Sd → Prop} (q : Q none s) : Eo K tNoPart s Q := fun S H σ A r R k => k none s S H q (Ex.refl S) A r
theorem eo_some {Q : Option Int → Sd → Prop} (h : Ed K te s fun x s1 => ∃ i, x = .int i ∧ Q (some i) s1) : Eo K (tPart te) s Q := fun S H σ A r R k =>
  h S H σ A r _ fun x s1 v S1 H1 h1 e1 A1 r1 rx => by
    obtain ⟨i, rfl, q⟩ := h1
    exact ⟨i, rx.int_of, k _ s1 S1 H1 q e1 A1 r1⟩
def cutD (xs : List D) (lo hi : Option Int) : List D := (xs.drop (HT.sIx xs.length 0 lo)).take (HT.sIx xs.length xs.length hi - HT.sIx xs.length 0 lo)
theorem RpL.cut {S : Hp} {ds : List D} {vs : List V} (r : RpL K S ds vs) (lo hi : Option Int) : RpL K S (cutD ds lo hi) (cutV vs lo hi) := by
  unfold cutD cutV
  rw [← r.length]
  exact (r.drop _).take _
theorem ed_slL {tl th : TO} (h : Ed K te s fun x s1 => Eo K tl s1 fun lo s2 => Eo K th s2 fun hi s3 => ∃ xs, asL x = some xs ∧ Q (.lst (cutD xs lo hi)) s3) : Ed K (tSl (rSlL K) te tl th) s Q := fun S H σ A r R k =>
  h S H σ A r _ fun x s1 v S1 H1 h1 e1 A1 r1 rx => h1 S1 H1 σ A1 r1 _ fun lo s2 S2 H2 h2 e2 A2 r2 => h2 S2 H2 σ A2 r2 _ fun hi s3 S3 H3 h3 e3 A3 r3 => by
    obtain ⟨xs, hx, q⟩ := h3
    obtain ⟨a, vs, rfl, hl, rl⟩ := (rx.mono (e2.trans e3)).asL_of hx
    refine ⟨a, vs, rfl, ex_l A3.ex hl, fun p hp => ?_⟩
    obtain ⟨A4, e4⟩ := A3.new hp (.lst (cutV vs lo hi))
    exact k _ s3 _ _ _ q ((e1.trans (e2.trans e3)).trans e4) A4 (r3.mono e4) (Rp.lst upd_same (RpL.mono e4 _ _ (rl.cut lo hi)))
theorem ed_slM {tl th : TO} (h : Ed K te s fun x s1 => Eo K tl s1 fun lo s2 => Eo K th s2 fun hi s3 => ∃ a xs, x = .adr a ∧ s3.M a = some (.lst xs) ∧ Q (.lst (cutD xs lo hi)) s3) : Ed K (tSl (rSlL K) te tl th) s Q := fun S H σ A r R k =>
  h S H σ A r _ fun x s1 v S1 H1 h1 e1 A1 r1 rx => h1 S1 H1 σ A1 r1 _ fun lo s2 S2 H2 h2 e2 A2 r2 => h2 S2 H2 σ A2 r2 _ fun hi s3 S3 H3 h3 e3 A3 r3 => by
    obtain ⟨a, xs, rfl, hm, q⟩ := h3
    obtain rfl := rx.oth_of
    obtain ⟨_, u, hu, ro⟩ := A3.mm a _ hm
    obtain ⟨vs, rfl, rl⟩ := ro.lst_of
    refine ⟨a, vs, rfl, SqL.of hu, fun p hp => ?_⟩
    obtain ⟨A4, e4⟩ := A3.new hp (.lst (cutV vs lo hi))
    exact k _ s3 _ _ _ q ((e1.trans (e2.trans e3)).trans e4) A4 (r3.mono e4) (Rp.lst upd_same (RpL.mono e4 _ _ (rl.cut lo hi)))
/-- xs + ys -/
theorem ed_cat (h : Ed K ta s fun x s1 => Ed K tb s1 fun y s2 => ∃ xs ys, x = .lst xs ∧ y = .lst ys ∧ xs.length + ys.length ≤ sizeLine ∧ Q (.lst (xs ++ ys)) s2) : Ed K (tOp rCat ta tb) s Q := fun S H σ A r R k =>
  h S H σ A r _ fun x s1 v S1 H1 h1 e1 A1 r1 rx => h1 S1 H1 σ A1 r1 _ fun y s2 w S2 H2 h2 e2 A2 r2 ry => by
    obtain ⟨xs, ys, rfl, rfl, hz, q⟩ := h2
    obtain ⟨a, vs, rfl, ha, ra⟩ := (rx.mono e2).lst_of
    obtain ⟨b, us, rfl, hb, rb⟩ := ry.lst_of
    refine ⟨a, b, vs, us, rfl, rfl, A2.ex _ _ ha, A2.ex _ _ hb, by rw [← ra.length, ← rb.length]; exact hz, fun p hp => ?_⟩
    obtain ⟨A4, e4⟩ := A2.new hp (.lst (vs ++ us))
    exact k _ s2 _ _ _ q ((e1.trans e2).trans e4) A4 (r2.mono e4) (Rp.lst upd_same (RpL.mono e4 _ _ (ra.append rb)))
/-- calls of built-ins -/
def seqL : D → Option (List D)
  | .lst ds => some ds
  | .frz ds => some ds
  | .tup ds => some ds
  | _ => none
theorem Rp.seqL_of {S : Hp} {ds : List D} (h : Rp K S d v) (e : seqL d = some ds) : ∃ a xs, v = .ref a ∧ (SqL K S a xs ∨ SqT K S a xs) ∧ RpL K S ds xs := by
  cases d <;> simp only [seqL, Option.some.injEq, reduceCtorEq] at e
  · subst e
    obtain ⟨a, xs, e1, h1, h2⟩ := h.lst_of
    exact ⟨a, xs, e1, .inl (SqL.of h1), h2⟩
  · subst e
    obtain ⟨a, xs, e1, h1, h2⟩ := h.frz_of
    exact ⟨a, xs, e1, .inl h1, h2⟩
  · subst e
    obtain ⟨a, xs, e1, h1, h2⟩ := h.tup_of
    exact ⟨a, xs, e1, .inr h1, h2⟩
theorem ed_len (h : Ed K ta s fun x s1 => ∃ xs, seqL x = some xs ∧ Q (.int (xs.length : Int)) s1) : Ed K (tCB (rLenS K) (tCons ta tNil)) s Q := fun S H σ A r R k =>
  h S H σ A r _ fun x s1 v S1 H1 h1 e1 A1 r1 rx => by
    obtain ⟨xs, hx, q⟩ := h1
    obtain ⟨a, vs, rfl, hl, rl⟩ := rx.seqL_of hx
    refine ⟨a, vs, rfl, hl.elim (fun z => .inl (ex_l A1.ex z)) fun z => .inr (ex_t A1.ex z), ?_⟩
    rw [← rl.length]
    exact k _ s1 _ S1 H1 q e1 A1 r1 Rp.int
theorem ed_lenM (h : Ed K ta s fun x s1 => ∃ a xs, x = .adr a ∧ s1.M a = some (.lst xs) ∧ Q (.int (xs.length : Int)) s1) : Ed K (tCB (rLenS K) (tCons ta tNil)) s Q := fun S H σ A r R k =>
  h S H σ A r _ fun x s1 v S1 H1 h1 e1 A1 r1 rx => by
    obtain ⟨a, xs, rfl, hm, q⟩ := h1
    obtain rfl := rx.oth_of
    obtain ⟨_, u, hu, ro⟩ := A1.mm a _ hm
    obtain ⟨vs, rfl, rl⟩ := ro.lst_of
    refine ⟨a, vs, rfl, .inl (SqL.of hu), ?_⟩
    rw [← rl.length]
    exact k _ s1 _ S1 H1 q e1 A1 r1 Rp.int
theorem ed_list (h : Ed K ta s fun x s1 => ∃ xs, seqL x = some xs ∧ Q (.lst xs) s1) : Ed K (tCB (rListS K) (tCons ta tNil)) s Q := fun S H σ A r R k =>
  h S H σ A r _ fun x s1 v S1 H1 h1 e1 A1 r1 rx => by
    obtain ⟨xs, hx, q⟩ := h1
    obtain ⟨a, vs, rfl, hl, rl⟩ := rx.seqL_of hx
    refine ⟨a, vs, rfl, hl.elim (fun z => .inl (ex_l A1.ex z)) fun z => .inr (ex_t A1.ex z), fun p hp => ?_⟩
    obtain ⟨A4, e4⟩ := A1.new hp (.lst vs)
    exact k _ s1 _ _ _ q (e1.trans e4) A4 (r1.mono e4) (Rp.lst upd_same (RpL.mono e4 _ _ rl))
def rInt1 : List V → Hp → VK → Prop := fun xs H Q => (∃ i, xs = [.int i] ∧ Q (.int i) H) ∨ ∃ k, xs = [.bl k] ∧ Q (.int (if k then 1 else 0)) H
theorem ed_int (h : Ed K ta s fun x s1 => ∃ i, x = .int i ∧ Q (.int i) s1) : Ed K (tCB rInt1 (tCons ta tNil)) s Q := fun S H σ A r R k =>
  h S H σ A r _ fun x s1 v S1 H1 h1 e1 A1 r1 rx => by
    obtain ⟨i, rfl, q⟩ := h1
    refine .inl ⟨i, ?_, k _ s1 _ S1 H1 q e1 A1 r1 Rp.int⟩
    rw [rx.int_of]
theorem ed_intB (h : Ed K ta s fun x s1 => ∃ b, x = .bl b ∧ Q (.int (if b then 1 else 0)) s1) : Ed K (tCB rInt1 (tCons ta tNil)) s Q := fun S H σ A r R k =>
  h S H σ A r _ fun x s1 v S1 H1 h1 e1 A1 r1 rx => by
    obtain ⟨i, rfl, q⟩ := h1
    refine .inr ⟨i, ?_, k _ s1 _ S1 H1 q e1 A1 r1 Rp.int⟩
    rw [rx.bl_of]
/-- a built-in on scalars -/
theorem ed_cbV {r : List V → Hp → VK → Prop} {tr : TA} (h : Ea K tr s fun xs s1 => ∃ vs, (∀ S us, RpL K S xs us → us = vs) ∧ ∃ z, (∀ (H : Hp) (R : VK), R z H → r vs H R) ∧ Q (ofV z) s1) : Ed K (tCB r tr) s Q := fun S H σ A rr R k =>
  h S H σ A rr _ fun xs s1 us S1 H1 h1 e1 A1 r1 rx => by
    obtain ⟨vs, hv, z, hr, q⟩ := h1
    show r us H1 R
    rw [hv _ _ rx]
    exact hr H1 R (k _ s1 _ S1 H1 q e1 A1 r1 (Rp.ofV _))
end
end DL

namespace DL
open PySem L2 Evl
section
variable {K : PySem.W.Frag} {s : Sd} {Q : D → Sd → Prop} {ta tb te tl : TE} {t u : TT} {d : D} {v : V} {P : Pd} {ts tr tz : TS} {g : TG}
/-! ### statements -/
theorem es_next (h : P.nx s) : Es K tNext s P := fun S H σ N A r l => l.nx s S H σ h (Ex.refl S) A r
theorem es_break (h : P.bk s) : Es K tBreak s P := fun S H σ N A r l => l.bk s S H σ h (Ex.refl S) A r
theorem es_cont (h : P.ct s) : Es K tCont s P := fun S H σ N A r l => l.ct s S H σ h (Ex.refl S) A r
theorem es_seq (h : Es K ts s { P with nx := fun s' => Es K tr s' P }) : Es K (tSeq ts tr) s P := fun S H σ N A r l =>
  h S H σ { N with nx := tr N } A r ⟨fun s' S' H' σ' q e A' r' => q S' H' σ' N A' r' (l.mono e), l.rt, l.bk, l.ct⟩
theorem es_ret (h : Ed K te s fun d s' => P.rt d s'.M) : Es K (tRet te) s P := fun S H σ N A r l =>
  h S H σ A r _ fun d s' v S' H' q e A' r' rv => l.rt d s'.M v S' H' q e A' rv
theorem es_retN (h : P.rt .non s.M) : Es K tRetN s P := fun S H σ N A r l => l.rt .non s.M _ S H h (Ex.refl S) A Rp.non
theorem es_drop (h : Ed K te s fun _ s' => P.nx s') : Es K (tDrop te) s P := fun S H σ N A r l =>
  h S H σ A r _ fun d s' v S' H' q e A' r' rv => l.nx s' S' H' σ q e A' r'
theorem es_if (h : Et K t s fun b s' => (b = true → Es K ts s' P) ∧ (b = false → Es K tr s' P)) : Es K (tIfS t ts tr) s P := fun S H σ N A r l =>
  h S H σ A r _ fun b s' S' H' q e A' r' => by
    cases b with
    | true => exact q.1 rfl S' H' σ N A' r' (l.mono e)
    | false => exact q.2 rfl S' H' σ N A' r' (l.mono e)
theorem es_asg (h : Ed K te s fun d s' => Eg K g d s' P.nx) : Es K (tAsg te g) s P := fun S H σ N A r l =>
  h S H σ A r _ fun d s' v S' H' q e A' r' rv => q S' H' σ v A' r' rv _ fun s2 S2 H2 σ2 q2 e2 A2 r2 => l.nx s2 S2 H2 σ2 q2 (e.trans e2) A2 r2
theorem es_set {i : Nat} (h : Ed K te s fun d s' => P.nx ⟨s'.ρ.set i (some d), s'.M⟩) : Es K (tAsg te (gName i)) s P := fun S H σ N A r l =>
  h S H σ A r _ fun d s' v S' H' q e A' r' rv => l.nx ⟨s'.ρ.set i (some d), s'.M⟩ S' H' _ q e A' (r'.set i rv)
theorem es_aug {i : Nat} {f : Int → Int → Int} {a : Int} (h0 : s.ρ[i]? = some (some (.int a))) (h : Ed K te s fun d s' => ∃ b, d = .int b ∧ P.nx ⟨s'.ρ.set i (some (.int (f a b))), s'.M⟩) : Es K (tAug i te (ipI f)) s P := fun S H σ N A r l => by
  obtain ⟨x, ex, rx⟩ := r.get h0
  obtain rfl := rx.int_of
  refine ⟨_, ex, h S H σ A r _ fun d s' v S' H' q e A' r' rv => ?_⟩
  obtain ⟨b, rfl, q⟩ := q
  exact ⟨a, b, rfl, rv.int_of, l.nx ⟨s'.ρ.set i (some (.int (f a b))), s'.M⟩ S' H' _ q e A' (r'.set i Rp.int)⟩
/-! ### targets -/
theorem eg_name {i : Nat} {Q : Sd → Prop} (h : Q ⟨s.ρ.set i (some d), s.M⟩) : Eg K (gName i) d s Q := fun S H σ v A r rv R k =>
  k ⟨s.ρ.set i (some d), s.M⟩ S H _ h (Ex.refl S) A (r.set i rv)
theorem egs_nil {Q : Sd → Prop} (h : Q s) : Egs K gNil [] s Q := fun S H σ vs A r rv R k => ⟨rv.nil_of, k s S H σ h (Ex.refl S) A r⟩
theorem egs_cons {gs : TGs} {ds : List D} {Q : Sd → Prop} (h : Eg K g d s fun s1 => Egs K gs ds s1 Q) : Egs K (gCons g gs) (d :: ds) s Q := fun S H σ vs A r rv R k => by
  obtain ⟨v, us, rfl, rv1, rv2⟩ := rv.cons_of
  refine ⟨v, us, rfl, h S H σ v A r rv1 _ fun s1 S1 H1 σ1 q e A1 r1 => ?_⟩
  exact q S1 H1 σ1 us A1 r1 (RpL.mono e _ _ rv2) R fun s2 S2 H2 σ2 q2 e2 => k s2 S2 H2 σ2 q2 (e.trans e2)
theorem eg_tup {n : Nat} {gs : TGs} {Q : Sd → Prop} (h : ∃ ds, d = .tup ds ∧ ds.length = n ∧ Egs K gs ds s Q) : Eg K (gTup K n gs) d s Q := fun S H σ v A r rv R k => by
  obtain ⟨ds, rfl, hn, h⟩ := h
  obtain ⟨a, vs, rfl, ht, rl⟩ := rv.tup_of
  exact ⟨a, vs, rfl, ex_t A.ex ht, by rw [← rl.length]; exact hn, h S H σ vs A r rl R k⟩
/-- xs[i] = v of a mutable list -/
theorem eg_setM {Q : Sd → Prop} (h : Ed K ta s fun x s1 => Ed K tb s1 fun y s2 => ∃ a xs i j, x = .adr a ∧ y = .int i ∧ s2.M a = some (.lst xs) ∧ ixN xs.length i = some j ∧ Q ⟨s2.ρ, updM s2.M a (.lst (xs.set j d))⟩) : Eg K (gSub ta tb rSetL) d s Q := fun S H σ v A r rv R k =>
  h S H σ A r _ fun x s1 w S1 H1 h1 e1 A1 r1 rx => h1 S1 H1 σ A1 r1 _ fun y s2 z S2 H2 h2 e2 A2 r2 ry => by
    obtain ⟨a, xs, i, j, rfl, rfl, hm, hj, q⟩ := h2
    obtain rfl := rx.oth_of
    obtain ⟨_, o, hu, ro⟩ := A2.mm a _ hm
    obtain ⟨vs, rfl, rl⟩ := ro.lst_of
    refine ⟨a, vs, i, j, rfl, ry.int_of, hu, by rw [← rl.length]; exact hj, ?_⟩
    exact k ⟨s2.ρ, updM s2.M a (.lst (xs.set j d))⟩ S2 _ σ q (e1.trans e2) (A2.put hm (o := .lst (vs.set j v)) (m := .lst (xs.set j d)) (RpL.set j ((rv.mono e1).mono e2) rl)) r2
/-! ### methods of a mutable list -/
theorem tyV_list {S H : Hp} {M : MM} (A : At K S H M) {a : Addr} {ds : List D} (h : M a = some (.lst ds)) : tyV K "list" (.ref a) H := by
  obtain ⟨_, u, hu, ro⟩ := A.mm a _ h
  obtain ⟨vs, rfl, rl⟩ := ro.lst_of
  exact .inl ⟨rfl, _, SqL.of hu⟩
/-- l.append(y) -/
theorem ed_app (h : Ed K ta s fun x s1 => ∃ a xs, x = .adr a ∧ s1.M a = some (.lst xs) ∧ Ed K tb s1 fun y s2 => ∃ xs', s2.M a = some (.lst xs') ∧ xs'.length < sizeLine ∧ Q .non ⟨s2.ρ, updM s2.M a (.lst (xs' ++ [y]))⟩) :
    Ed K (tBM K "list" rAppend ta (tCons tb tNil)) s Q := fun S H σ A r R k =>
  h S H σ A r _ fun x s1 w S1 H1 h1 e1 A1 r1 rx => by
    obtain ⟨a, xs, rfl, hm, h1⟩ := h1
    obtain rfl := rx.oth_of
    refine ⟨tyV_list A1 hm, h1 S1 H1 σ A1 r1 _ fun y s2 z S2 H2 h2 e2 A2 r2 ry => ?_⟩
    obtain ⟨xs', hm', hz, q⟩ := h2
    obtain ⟨_, o, hu, ro⟩ := A2.mm a _ hm'
    obtain ⟨vs, rfl, rl⟩ := ro.lst_of
    refine ⟨a, vs, z, rfl, rfl, hu, by rw [← rl.length]; exact hz, ?_⟩
    exact k .non ⟨s2.ρ, updM s2.M a (.lst (xs' ++ [y]))⟩ _ S2 _ q (e1.trans e2) (A2.put hm' (o := .lst (vs ++ [z])) (m := .lst (xs' ++ [y])) (rl.append (RpL.cons ry RpL.nil))) r2 Rp.non
/-- l.pop() -/
theorem ed_pop (h : Ed K ta s fun x s1 => ∃ a xs y, x = .adr a ∧ s1.M a = some (.lst xs) ∧ xs[xs.length - 1]? = some y ∧ Q y ⟨s1.ρ, updM s1.M a (.lst xs.dropLast)⟩) : Ed K (tBM0 K "list" rPop ta) s Q := fun S H σ A r R k =>
  h S H σ A r _ fun x s1 w S1 H1 h1 e1 A1 r1 rx => by
    obtain ⟨a, xs, y, rfl, hm, hy, q⟩ := h1
    obtain rfl := rx.oth_of
    refine ⟨tyV_list A1 hm, ?_⟩
    obtain ⟨_, o, hu, ro⟩ := A1.mm a _ hm
    obtain ⟨vs, rfl, rl⟩ := ro.lst_of
    obtain ⟨z, hz, rz⟩ := rl.getD hy
    refine ⟨a, vs, z, rfl, rfl, hu, by rw [← rl.length]; exact hz, ?_⟩
    exact k y ⟨s1.ρ, updM s1.M a (.lst xs.dropLast)⟩ _ S1 _ q e1 (A1.put hm (o := .lst vs.dropLast) (m := .lst xs.dropLast) rl.dropLast) r1 rz
/-- l.extend(ys), ys a frozen list -/
theorem ed_ext (h : Ed K ta s fun x s1 => ∃ a xs, x = .adr a ∧ s1.M a = some (.lst xs) ∧ Ed K tb s1 fun y s2 => ∃ xs' ys, y = .lst ys ∧ s2.M a = some (.lst xs') ∧ xs'.length + ys.length ≤ sizeLine ∧ Q .non ⟨s2.ρ, updM s2.M a (.lst (xs' ++ ys))⟩) :
    Ed K (tBM K "list" rExtend ta (tCons tb tNil)) s Q := fun S H σ A r R k =>
  h S H σ A r _ fun x s1 w S1 H1 h1 e1 A1 r1 rx => by
    obtain ⟨a, xs, rfl, hm, h1⟩ := h1
    obtain rfl := rx.oth_of
    refine ⟨tyV_list A1 hm, h1 S1 H1 σ A1 r1 _ fun y s2 z S2 H2 h2 e2 A2 r2 ry => ?_⟩
    obtain ⟨xs', ys, rfl, hm', hz, q⟩ := h2
    obtain ⟨_, o, hu, ro⟩ := A2.mm a _ hm'
    obtain ⟨vs, rfl, rl⟩ := ro.lst_of
    obtain ⟨b, us, rfl, hb, rb⟩ := ry.lst_of
    refine ⟨a, b, vs, us, rfl, rfl, hu, A2.ex _ _ hb, by rw [← rl.length, ← rb.length]; exact hz, ?_⟩
    exact k .non ⟨s2.ρ, updM s2.M a (.lst (xs' ++ ys))⟩ _ S2 _ q (e1.trans e2) (A2.put hm' (o := .lst (vs ++ us)) (m := .lst (xs' ++ ys)) (rl.append rb)) r2 Rp.non
/-! ### loops -/
/-- a loop over items, told from the front -/
def Lp (K : PySem.W.Frag) (g : TG) (tb : TS) (P : Pd) : List D → Sd → Prop
  | [], s => P.nx s
  | x :: xs, s => Eg K g x s fun s2 => Es K tb s2 { P with nx := Lp K g tb P xs, ct := Lp K g tb P xs, bk := P.nx }
/-- what a walk yields: the data ds, one by one -/
structure ItOk (K : PySem.W.Frag) (S : Hp) (ds : List D) (J : It) : Prop where
  go : ∀ i d S2 H2 M2, ds[i]? = some d → Ex S S2 → At K S2 H2 M2 → J.go i H2 ∧ ∀ x H3, J.yld i H2 x H3 → ∃ S3, Ex S2 S3 ∧ At K S3 H3 M2 ∧ Rp K S3 d x
  stop : ∀ S2 H2 M2, Ex S S2 → At K S2 H2 M2 → J.stop ds.length H2
def Ei (K : PySem.W.Frag) (wi : TI) (s : Sd) (Q : List D → Sd → Prop) : Prop :=
  ∀ (S H : Hp) (σ : St), At K S H s.M → RpS K S s.ρ σ → ∀ R : It → Hp → Prop, (∀ ds s' J S' H', Q ds s' → Ex S S' → At K S' H' s'.M → RpS K S' s'.ρ σ → ItOk K S' ds J → R J H') → wi σ H R
theorem es_for {wi : TI} (h : Ei K wi s fun ds s' => Lp K g ts P ds s') : Es K (tFor wi g ts) s P := fun S H σ N A r l =>
  h S H σ A r _ fun ds s' J S' H' q e A' r' hJ => by
    have l' := l.mono e
    refine ⟨fun i m σ H => m = ds.length - i ∧ i ≤ ds.length ∧ ∃ s' S2, Lp K g ts P (ds.drop i) s' ∧ Ex S' S2 ∧ At K S2 H s'.M ∧ RpS K S2 s'.ρ σ, ⟨ds.length, rfl, Nat.zero_le _, s', S', by rw [List.drop_zero]; exact q, Ex.refl _, A', r'⟩, ?_⟩
    rintro i m σ1 H1 ⟨rfl, hi, s1, S1, hl, e1, A1, r1⟩
    by_cases hlt : i < ds.length
    · rw [List.drop_eq_getElem_cons hlt] at hl
      obtain ⟨g1, g2⟩ := hJ.go i _ S1 H1 _ (List.getElem?_eq_getElem hlt) e1 A1
      refine .inr ⟨g1, fun σ H => ∃ s' S2, Lp K g ts P (ds.drop (i + 1)) s' ∧ Ex S' S2 ∧ At K S2 H s'.M ∧ RpS K S2 s'.ρ σ, fun σ' H' p' => ⟨ds.length - (i + 1), by omega, rfl, hlt, p'⟩, fun x H2 y => ?_⟩
      obtain ⟨S2, e2, A2, rx⟩ := g2 x H2 y
      refine hl S2 H2 σ1 x A2 (r1.mono e2) rx _ fun s3 S3 H3 σ3 q3 e3 A3 r3 => ?_
      have e' := (e1.trans e2).trans e3
      exact q3 S3 H3 σ3 _ A3 r3 ⟨fun s4 S4 H4 σ4 q4 e4 A4 r4 => ⟨s4, S4, q4, e'.trans e4, A4, r4⟩, fun d' M' v S4 H4 q4 e4 A4 r4 => l'.rt d' M' v S4 H4 q4 (e'.trans e4) A4 r4,
        fun s4 S4 H4 σ4 q4 e4 A4 r4 => l'.nx s4 S4 H4 σ4 q4 (e'.trans e4) A4 r4, fun s4 S4 H4 σ4 q4 e4 A4 r4 => ⟨s4, S4, q4, e'.trans e4, A4, r4⟩⟩
    · have e2 : i = ds.length := by omega
      subst e2
      rw [List.drop_length] at hl
      exact .inl ⟨hJ.stop S1 H1 _ e1 A1, l'.nx s1 S1 H1 σ1 hl e1 A1 r1⟩
theorem ei_list {Q : List D → Sd → Prop} (h : Ed K tl s fun d s' => ∃ ds, asL d = some ds ∧ Q ds s') : Ei K (iList K tl) s Q := fun S H σ A r R k =>
  h S H σ A r _ fun d s' v S' H' q e A' r' rv => by
    obtain ⟨ds, hd, hl⟩ := q
    obtain ⟨a, vs, rfl, ha, rl⟩ := rv.asL_of hd
    refine ⟨a, rfl, ⟨vs, ex_l A'.ex ha⟩, k ds s' _ S' H' hl e A' r' ⟨fun i d S2 H2 M2 hi e2 A2 => ?_, fun S2 H2 M2 e2 A2 => ⟨vs, ex_l A2.ex (ex_l e2 ha), Nat.le_of_eq rl.length.symm⟩⟩⟩
    obtain ⟨x, hx, rx⟩ := rl.getD hi
    refine ⟨⟨vs, x, ex_l A2.ex (ex_l e2 ha), hx⟩, fun y H3 ⟨e3, hy⟩ => ?_⟩
    subst e3
    have z := hy vs (ex_l A2.ex (ex_l e2 ha))
    rw [hx] at z
    cases z
    exact ⟨S2, Ex.refl _, A2, rx.mono e2⟩
theorem ei_tup {Q : List D → Sd → Prop} (h : Ed K tl s fun d s' => ∃ ds, d = .tup ds ∧ Q ds s') : Ei K (iTup K tl) s Q := fun S H σ A r R k =>
  h S H σ A r _ fun d s' v S' H' q e A' r' rv => by
    obtain ⟨ds, rfl, hl⟩ := q
    obtain ⟨a, vs, rfl, ha, rl⟩ := rv.tup_of
    refine ⟨a, rfl, ⟨vs, ex_t A'.ex ha⟩, k ds s' _ S' H' hl e A' r' ⟨fun i d S2 H2 M2 hi e2 A2 => ?_, fun S2 H2 M2 e2 A2 => ⟨vs, ex_t A2.ex (ex_t e2 ha), Nat.le_of_eq rl.length.symm⟩⟩⟩
    obtain ⟨x, hx, rx⟩ := rl.getD hi
    refine ⟨⟨vs, x, ex_t A2.ex (ex_t e2 ha), hx⟩, fun y H3 ⟨e3, hy⟩ => ?_⟩
    subst e3
    have z := hy vs (ex_t A2.ex (ex_t e2 ha))
    rw [hx] at z
    cases z
    exact ⟨S2, Ex.refl _, A2, rx.mono e2⟩
def rangeD (lo : Int) (n : Nat) : List D := (List.range n).map fun (i : Nat) => D.int (lo + (i : Int))
theorem rangeD_length {lo : Int} {n : Nat} : (rangeD lo n).length = n := by
  unfold rangeD
  rw [List.length_map, List.length_range]
theorem rangeD_get {lo : Int} {n i : Nat} {d : D} (h : (rangeD lo n)[i]? = some d) : i < n ∧ d = .int (lo + (i : Int)) := by
  have hi : i < n := by have := (List.getElem?_eq_some_iff.mp h).1; rw [rangeD_length] at this; exact this
  unfold rangeD at h
  rw [List.getElem?_map, List.getElem?_range hi] at h
  exact ⟨hi, (Option.some.inj h).symm⟩
theorem itOk_range {S : Hp} {lo : Int} {n : Nat} : ItOk K S (rangeD lo n) (Itr lo n) := ⟨fun i d S2 H2 M2 hi e2 A2 => by
    obtain ⟨h1, rfl⟩ := rangeD_get hi
    refine ⟨h1, fun x H3 ⟨e3, hx⟩ => ?_⟩
    subst e3 hx
    exact ⟨S2, Ex.refl _, A2, Rp.int⟩, fun S2 H2 M2 e2 A2 => Nat.le_of_eq rangeD_length.symm⟩
theorem ei_rng1 {ta : TA} {Q : List D → Sd → Prop} (h : Ea K ta s fun xs s' => ∃ n : Int, xs = [.int n] ∧ -(2 ^ 62) ≤ n ∧ n < 2 ^ 62 ∧ Q (rangeD 0 n.toNat) s') : Ei K (iRng1 ta) s Q := fun S H σ A r R k =>
  h S H σ A r _ fun d s' vs S' H' q e A' r' rv => by
    obtain ⟨n, rfl, h1, h2, hl⟩ := q
    obtain ⟨v, rr, rfl, rv1, rv2⟩ := rv.cons_of
    obtain rfl := rv2.nil_of
    obtain rfl := rv1.int_of
    exact ⟨n, rfl, h1, h2, k _ s' _ S' H' hl e A' r' itOk_range⟩
theorem ei_rng2 {ta : TA} {Q : List D → Sd → Prop} (h : Ea K ta s fun xs s' => ∃ i n : Int, xs = [.int i, .int n] ∧ (-(2 ^ 62) ≤ i ∧ i < 2 ^ 62 ∧ -(2 ^ 62) ≤ n ∧ n < 2 ^ 62) ∧ Q (rangeD i (n - i).toNat) s') : Ei K (iRng2 ta) s Q := fun S H σ A r R k =>
  h S H σ A r _ fun d s' vs S' H' q e A' r' rv => by
    obtain ⟨i, n, rfl, h1, hl⟩ := q
    obtain ⟨v, rr, rfl, rv1, rv2⟩ := rv.cons_of
    obtain ⟨v', rr', rfl, rv3, rv4⟩ := rv2.cons_of
    obtain rfl := rv4.nil_of
    obtain rfl := rv1.int_of
    obtain rfl := rv3.int_of
    exact ⟨i, n, rfl, h1, k _ s' _ S' H' hl e A' r' itOk_range⟩
theorem ei_rev {ta : TA} {Q : List D → Sd → Prop} (h : Ea K ta s fun xs s' => ∃ d ds, xs = [d] ∧ asL d = some ds ∧ Q ds.reverse s') : Ei K (iRev K ta) s Q := fun S H σ A r R k =>
  h S H σ A r _ fun d s' vs S' H' q e A' r' rv => by
    obtain ⟨d, ds, rfl, hd, hl⟩ := q
    obtain ⟨v, rr, rfl, rv1, rv2⟩ := rv.cons_of
    obtain rfl := rv2.nil_of
    obtain ⟨a, vs, rfl, ha, rl⟩ := rv1.asL_of hd
    refine ⟨a, vs, rfl, ex_l A'.ex ha, k _ s' _ S' H' hl e A' r' ⟨fun i d S2 H2 M2 hi e2 A2 => ?_, fun S2 H2 M2 e2 A2 => by show vs.length ≤ _; rw [List.length_reverse, rl.length]; exact Nat.le_refl _⟩⟩
    have hlt : i < ds.length := by have := (List.getElem?_eq_some_iff.mp hi).1; rw [List.length_reverse] at this; exact this
    rw [List.getElem?_reverse hlt] at hi
    rw [rl.length] at hi hlt
    obtain ⟨x, hx, rx⟩ := rl.getD hi
    have hx' : vs[vs.length - 1 - i]? = some x := hx
    refine ⟨⟨hlt, vs, x, ex_l A2.ex (ex_l e2 ha), hx'⟩, fun y H3 ⟨e3, hy⟩ => ?_⟩
    subst e3
    have z := hy vs (ex_l A2.ex (ex_l e2 ha))
    rw [hx'] at z
    cases z
    exact ⟨S2, Ex.refl _, A2, rx.mono e2⟩
/-- by an invariant over the turn -/
theorem lp_inv {ds : List D} (I : Nat → Sd → Prop) (h0 : I 0 s) (hs : ∀ i x s', ds[i]? = some x → I i s' → Eg K g x s' fun s2 => Es K ts s2 { P with nx := I (i + 1), ct := I (i + 1), bk := P.nx }) (hd : ∀ s', I ds.length s' → P.nx s') : Lp K g ts P ds s := by
  have go : ∀ (xs : List D) (i : Nat) (s' : Sd), xs = ds.drop i → i ≤ ds.length → I i s' → Lp K g ts P xs s' := by
    intro xs
    induction xs with
    | nil =>
      intro i s' e hi h
      have : ds.length ≤ i := List.drop_eq_nil_iff.mp e.symm
      have e2 : i = ds.length := Nat.le_antisymm hi this
      subst e2
      exact hd s' h
    | cons x xs ih =>
      intro i s' e hi h
      have hlt : i < ds.length := by
        apply Nat.lt_of_not_le
        intro hle
        rw [List.drop_eq_nil_iff.mpr hle] at e
        cases e
      rw [List.drop_eq_getElem_cons hlt] at e
      obtain ⟨e1, e2⟩ := List.cons.inj e
      have hx : ds[i]? = some x := by rw [List.getElem?_eq_getElem hlt, e1]
      have nxt : ∀ s2, I (i + 1) s2 → Lp K g ts P xs s2 := fun s2 h2 => ih (i + 1) s2 e2 hlt h2
      intro S H σ v A r rv R k
      refine hs i x s' hx h S H σ v A r rv R fun s2 S2 H2 σ2 q => k s2 S2 H2 σ2 (q.imp nxt (fun _ _ z => z) (fun _ z => z) nxt)
  exact go ds 0 s (by rw [List.drop_zero]) (Nat.zero_le _) h0
/-- over range: the item is the turn -/
theorem lp_range {lo : Int} {n : Nat} (I : Nat → Sd → Prop) (h0 : I 0 s) (hs : ∀ i s', i < n → I i s' → Eg K g (.int (lo + (i : Int))) s' fun s2 => Es K ts s2 { P with nx := I (i + 1), ct := I (i + 1), bk := P.nx }) (hd : ∀ s', I n s' → P.nx s') : Lp K g ts P (rangeD lo n) s := by
  refine lp_inv I h0 (fun i x s' hx h => ?_) fun s' h => hd s' (by rw [rangeD_length] at h; exact h)
  obtain ⟨hi, rfl⟩ := rangeD_get hx
  exact hs i s' hi h
/-- while, by an invariant and a measure -/
theorem es_while (I : Nat → Sd → Prop) (m0 : Nat) (h0 : I m0 s) (hs : ∀ m s', I m s' → Et K t s' fun b s1 => (b = true → Es K ts s1 { P with nx := fun s2 => ∃ m', m' < m ∧ I m' s2, ct := fun s2 => ∃ m', m' < m ∧ I m' s2, bk := P.nx }) ∧ (b = false → P.nx s1)) : Es K (tWhile t ts) s P := fun S H σ N A r l => by
  refine ⟨fun m σ H => ∃ s' S', I m s' ∧ Ex S S' ∧ At K S' H s'.M ∧ RpS K S' s'.ρ σ, ⟨m0, s, S, h0, Ex.refl S, A, r⟩, ?_⟩
  rintro m σ1 H1 ⟨s', S', hi, e, A', r'⟩
  refine hs m s' hi S' H1 σ1 A' r' _ fun b s1 S1 H2 q e1 A1 r1 => ?_
  cases b with
  | true =>
    rw [if_pos rfl]
    refine ⟨fun σ3 H3 => ∃ s2 S2, (∃ m', m' < m ∧ I m' s2) ∧ Ex S S2 ∧ At K S2 H3 s2.M ∧ RpS K S2 s2.ρ σ3, fun σ3 H3 ⟨s2, S2, ⟨m', hm, h2⟩, e2, A2, r2⟩ => ⟨m', hm, s2, S2, h2, e2, A2, r2⟩, ?_⟩
    have e' := e.trans e1
    exact q.1 rfl S1 H2 σ1 _ A1 r1 ⟨fun s3 S3 H3 σ3 q3 e3 A3 r3 => ⟨s3, S3, q3, e'.trans e3, A3, r3⟩, fun d M' v S3 H3 q3 e3 => l.rt d M' v S3 H3 q3 (e'.trans e3), fun s3 S3 H3 σ3 q3 e3 => l.nx s3 S3 H3 σ3 q3 (e'.trans e3), fun s3 S3 H3 σ3 q3 e3 A3 r3 => ⟨s3, S3, q3, e'.trans e3, A3, r3⟩⟩
  | false =>
    rw [if_neg Bool.false_ne_true]
    exact l.nx s1 S1 H2 σ1 (q.2 rfl) (e.trans e1) A1 r1
end
end DL

namespace DL
open PySem L2 Evl
/-! ### comprehensions -/
def wipeD (ρ : List (Option D)) : List Nat → List (Option D)
  | [] => ρ
  | v :: vs => (wipeD ρ vs).set v none
section
variable {K : PySem.W.Frag} {s : Sd} {Q : D → Sd → Prop} {ta tb te tl : TE} {t u tt : TT} {d : D} {v : V} {P : Pd} {g : TG}
theorem RpS.wipe {S : Hp} {ρ : List (Option D)} {σ : St} (r : RpS K S ρ σ) : ∀ vs : List Nat, RpS K S (wipeD ρ vs) (wipe σ vs)
  | [] => r
  | v :: vs => (RpS.wipe r vs).setN v
theorem wipe_set {σ : St} {x : Option V} {j : Nat} : ∀ {vs : List Nat}, j ∈ vs → wipe (σ.set j x) vs = wipe σ vs
  | [], h => by simp at h
  | v :: vs, h => by
    unfold L2.wipe
    by_cases e : j = v
    · subst e
      by_cases hj : j ∈ vs
      · rw [wipe_set hj]
      · have go : ∀ (ws : List Nat), j ∉ ws → wipe (σ.set j x) ws = (wipe σ ws).set j x := by
          intro ws
          induction ws with
          | nil => intro _; rfl
          | cons w ws ih =>
            intro hn
            simp only [List.mem_cons, not_or] at hn
            unfold L2.wipe
            rw [ih hn.2, List.set_comm _ _ hn.1]
        rw [go vs hj, List.set_set]
    · have hj : j ∈ vs := by
        rcases List.mem_cons.mp h with z | z
        · exact absurd z e
        · exact z
      rw [wipe_set hj]
theorem wipe_wipe {σ : St} {vs : List Nat} : wipe (wipe σ vs) vs = wipe σ vs := by
  have go : ∀ (ws : List Nat), (∀ j ∈ ws, j ∈ vs) → wipe (wipe σ ws) vs = wipe σ vs := by
    intro ws
    induction ws with
    | nil => intro _; rfl
    | cons w ws ih =>
      intro h
      show wipe ((wipe σ ws).set w none) vs = _
      rw [wipe_set (h w List.mem_cons_self)]
      exact ih fun j hj => h j (List.mem_cons_of_mem _ hj)
  exact go vs fun _ h => h
/-- a target that stores the block's own names alone -/
def Wp (g : TG) (vs : List Nat) : Prop := ∀ v σ0 σ H R, wipe σ vs = wipe σ0 vs → g v σ H R → g v σ H fun σ2 H2 => wipe σ2 vs = wipe σ0 vs ∧ R σ2 H2
def Wps (g : TGs) (vs : List Nat) : Prop := ∀ us σ0 σ H R, wipe σ vs = wipe σ0 vs → g us σ H R → g us σ H fun σ2 H2 => wipe σ2 vs = wipe σ0 vs ∧ R σ2 H2
theorem wp_name {j : Nat} {vs : List Nat} (h : j ∈ vs) : Wp (gName j) vs := fun v σ0 σ H R e k => ⟨(wipe_set h).trans e, k⟩
theorem wps_nil {vs : List Nat} : Wps gNil vs := fun us σ0 σ H R e k => ⟨k.1, e, k.2⟩
theorem wp_tup {K' : PySem.W.Frag} {n : Nat} {gs : TGs} {vs : List Nat} (h : Wps gs vs) : Wp (gTup K' n gs) vs := fun v σ0 σ H R e k => by
  obtain ⟨a, xs, h1, h2, h3, k⟩ := k
  exact ⟨a, xs, h1, h2, h3, h xs σ0 σ H R e k⟩
/-- the block's loop: the list at p so far -/
def Lc (K : PySem.W.Frag) (g : TG) (tt : TT) (te : TE) (ρ ρw : List (Option D)) (Q : D → Sd → Prop) (p : Addr) : List D → List D → MM → Prop
  | [], acc, M => M p = some (.lst acc) ∧ Q (.lst acc) ⟨ρ, delM M p⟩
  | x :: xs, acc, M => M p = some (.lst acc) ∧ Eg K g x ⟨ρw, M⟩ fun s2 => Et K tt s2 fun b s3 =>
      (b = true → Ed K te s3 fun y s4 => s4.M p = some (.lst acc) ∧ acc.length < sizeLine ∧ Lc K g tt te ρ ρw Q p xs (acc ++ [y]) (updM s4.M p (.lst (acc ++ [y])))) ∧ (b = false → s3.M p = some (.lst acc) ∧ Lc K g tt te ρ ρw Q p xs acc s3.M)
theorem ed_lc {wi : TI} {vs : List Nat} (hw : Wp g vs) (h : Ei K wi s fun ds s' => ∀ p, s'.M p = none → Lc K g tt te s'.ρ (wipeD s'.ρ vs) Q p ds [] (updM s'.M p (.lst []))) : Ed K (tLc wi g tt te vs) s Q := fun S H σ A r R k =>
  h S H σ A r _ fun ds s' J S' H' q e A' r' hJ => by
    intro p hp
    have q := q p (A'.free hp)
    have A0 : At K S' (upd H' p (.lst [])) (updM s'.M p (.lst [])) := A'.newM hp (o := .lst []) (m := .lst []) (show RpL K S' [] [] from RpL.nil)
    refine ⟨fun i m H => m = ds.length - i ∧ i ≤ ds.length ∧ ∃ acc M1 S2, Lc K g tt te s'.ρ (wipeD s'.ρ vs) Q p (ds.drop i) acc M1 ∧ Ex S' S2 ∧ At K S2 H M1, ⟨ds.length, rfl, Nat.zero_le _, [], _, S', by rw [List.drop_zero]; exact q, Ex.refl _, A0⟩, ?_⟩
    rintro i m H1 ⟨rfl, hi, acc, M1, S1, hl, e1, A1⟩
    by_cases hlt : i < ds.length
    · rw [List.drop_eq_getElem_cons hlt] at hl
      obtain ⟨hm, hl⟩ := hl
      obtain ⟨g1, g2⟩ := hJ.go i _ S1 H1 _ (List.getElem?_eq_getElem hlt) e1 A1
      refine .inr ⟨g1, fun H => ∃ acc M1 S2, Lc K g tt te s'.ρ (wipeD s'.ρ vs) Q p (ds.drop (i + 1)) acc M1 ∧ Ex S' S2 ∧ At K S2 H M1, fun H' p' => ⟨ds.length - (i + 1), by omega, rfl, hlt, p'⟩, fun x H2 y => ?_⟩
      obtain ⟨S2, e2, A2, rx⟩ := g2 x H2 y
      refine hw x σ _ H2 _ wipe_wipe (hl S2 H2 _ x A2 ((r'.mono (e1.trans e2)).wipe vs) rx _ fun s3 S3 H3 σ3 q3 e3 A3 r3 => ?_)
      refine q3 S3 H3 σ3 A3 r3 _ fun b s4 S4 H4 q4 e4 A4 r4 => ?_
      have e' := ((e1.trans e2).trans e3).trans e4
      cases b with
      | true =>
        rw [if_pos rfl]
        refine q4.1 rfl S4 H4 σ3 A4 r4 _ fun y s5 v5 S5 H5 q5 e5 A5 r5 ry => ?_
        obtain ⟨hm5, hz, hn⟩ := q5
        obtain ⟨_, o, hu, ro⟩ := A5.mm p _ hm5
        obtain ⟨us, rfl, rl⟩ := ro.lst_of
        refine ⟨us, hu, by rw [← rl.length]; exact hz, _, _, S5, hn, e'.trans e5, ?_⟩
        exact A5.put hm5 (o := .lst (us ++ [v5])) (m := .lst (acc ++ [y])) (rl.append (RpL.cons ry RpL.nil))
      | false =>
        rw [if_neg Bool.false_ne_true]
        exact ⟨acc, s4.M, S4, (q4.2 rfl).2, e', A4⟩
    · have e2 : i = ds.length := by omega
      subst e2
      rw [List.drop_length] at hl
      obtain ⟨hm, hq⟩ := hl
      obtain ⟨S2, o, A2, e2, ho, ro⟩ := A1.freeze hm
      obtain ⟨us, rfl, rl⟩ := ro.lst_of
      have e' := (e.trans e1).trans e2
      exact .inl ⟨hJ.stop S1 H1 _ e1 A1, k (.lst acc) ⟨s'.ρ, delM M1 p⟩ _ S2 H1 hq e' A2 (r'.mono (e1.trans e2)) (Rp.lst ho (RpL.mono e2 _ _ rl))⟩
theorem et_yes {Q : Bool → Sd → Prop} (h : Q true s) : Et K tYes s Q := fun S H σ A r R k => k true s S H h (Ex.refl S) A r
/-- a block whose turns change nothing: the items are filtered and mapped by f -/
theorem ed_lcP {wi : TI} {vs : List Nat} (f : D → Option D) (hw : Wp g vs) (h : Ei K wi s fun ds s' => ds.length ≤ sizeLine ∧ (∀ x ∈ ds, ∀ M, (∀ a o, s'.M a = some o → M a = some o) → Eg K g x ⟨wipeD s'.ρ vs, M⟩ fun s2 => Et K tt s2 fun b s3 =>
    (b = true → Ed K te s3 fun y s4 => s4.M = M ∧ f x = some y) ∧ (b = false → s3.M = M ∧ f x = none)) ∧ Q (.lst (ds.filterMap f)) s') : Ed K (tLc wi g tt te vs) s Q := by
  refine ed_lc hw ?_
  intro S H σ A r R k
  refine h S H σ A r R fun ds s' J S' H' q e A' r' hJ => k ds s' J S' H' ?_ e A' r' hJ
  obtain ⟨hz, hx, q⟩ := q
  intro p hp
  have go : ∀ (xs pre : List D), pre ++ xs = ds → Lc K g tt te s'.ρ (wipeD s'.ρ vs) Q p xs (pre.filterMap f) (updM s'.M p (.lst (pre.filterMap f))) := by
    intro xs
    induction xs with
    | nil =>
      intro pre e
      rw [List.append_nil] at e
      subst e
      refine ⟨updM_same, ?_⟩
      rw [delM_updM hp]
      exact q
    | cons x xs ih =>
      intro pre e
      refine ⟨updM_same, ?_⟩
      have hmem : x ∈ ds := by rw [← e]; simp
      have hlen : (pre.filterMap f).length < sizeLine := by
        have h1 := List.length_filterMap_le f pre
        have h2 : pre.length < ds.length := by rw [← e]; simp
        omega
      intro S1 H1 σ1 v1 A1 r1 rv1 R1 k1
      refine hx x hmem _ (fun a o ha => updM_get (mm_ne ha hp) ha) S1 H1 σ1 v1 A1 r1 rv1 R1 fun s2 S2 H2 σ2 q2 e2 A2 r2 => k1 s2 S2 H2 σ2 ?_ e2 A2 r2
      refine q2.imp fun b s3 q3 => ⟨fun hb => (q3.1 hb).imp fun y s4 q4 => ?_, fun hb => ?_⟩
      · obtain ⟨hM, hf⟩ := q4
        refine ⟨by rw [hM]; exact updM_same, hlen, ?_⟩
        rw [hM, updM_updM]
        have := ih (pre ++ [x]) (by rw [List.append_assoc]; exact e)
        rw [List.filterMap_append, List.filterMap_cons, hf] at this
        exact this
      · obtain ⟨hM, hf⟩ := q3.2 hb
        rw [hM]
        refine ⟨updM_same, ?_⟩
        have := ih (pre ++ [x]) (by rw [List.append_assoc]; exact e)
        rw [List.filterMap_append, List.filterMap_cons, hf] at this
        simp only [List.filterMap_nil, List.append_nil] at this
        exact this
  exact go ds [] rfl
/-- .. without a test: mapped by f -/
theorem filterMap_some {α β : Type} (f : α → β) : ∀ l : List α, l.filterMap (fun x => some (f x)) = l.map f
  | [] => rfl
  | x :: l => by rw [List.filterMap_cons, List.map_cons, filterMap_some f l]
theorem ed_lcM {wi : TI} {vs : List Nat} (f : D → D) (hw : Wp g vs) (h : Ei K wi s fun ds s' => ds.length ≤ sizeLine ∧ (∀ x ∈ ds, ∀ M, (∀ a o, s'.M a = some o → M a = some o) → Eg K g x ⟨wipeD s'.ρ vs, M⟩ fun s2 => Ed K te s2 fun y s4 => s4.M = M ∧ y = f x) ∧ Q (.lst (ds.map f)) s') : Ed K (tLc wi g tYes te vs) s Q := by
  refine ed_lcP (fun x => some (f x)) hw ?_
  intro S H σ A r R k
  refine h S H σ A r R fun ds s' J S' H' q e A' r' hJ => k ds s' J S' H' ?_ e A' r' hJ
  obtain ⟨hz, hx, q⟩ := q
  refine ⟨hz, fun x hm M hM => ?_, ?_⟩
  · intro S1 H1 σ1 v1 A1 r1 rv1 R1 k1
    refine hx x hm M hM S1 H1 σ1 v1 A1 r1 rv1 R1 fun s2 S2 H2 σ2 q2 e2 A2 r2 => k1 s2 S2 H2 σ2 ?_ e2 A2 r2
    exact et_yes ⟨fun _ => q2.imp fun y s4 q4 => ⟨q4.1, by rw [q4.2]⟩, fun z => by cases z⟩
  · rw [filterMap_some]; exact q

/-! ### calls -/
/-- what a def does, over data: arguments, mutable objects, what is wanted -/
abbrev DSp := List D → MM → (D → MM → Prop) → Prop
def spOf (K : PySem.W.Frag) (T : DSp) : Sp := fun vs H Q _ => ∃ S M ds R, At K S H M ∧ RpL K S ds vs ∧ T ds M R ∧ ∀ d M' v S' H', R d M' → Ex S S' → At K S' H' M' → Rp K S' d v → Q v H'
theorem ed_call {T : DSp} {E : XK} {tr : TA} (h : Ea K tr s fun ds s1 => T ds s1.M fun d M' => Q d ⟨s1.ρ, M'⟩) : Ed K (tCall (spOf K T) [] E tr) s Q := fun S H σ A r R k =>
  h S H σ A r _ fun ds s1 vs S1 H1 h1 e1 A1 r1 rv => by
    refine ⟨S1, s1.M, ds, _, A1, by rw [List.append_nil]; exact rv, h1, fun d M' v S' H' hq e A' rd => ?_⟩
    exact k d ⟨s1.ρ, M'⟩ v S' H' hq (e1.trans e) A' (r1.mono e) rd
theorem spOf.imp {T T' : DSp} (h : ∀ ds M R, T' ds M R → T ds M R) : ∀ vs H Q E, spOf K T' vs H Q E → spOf K T vs H Q E := fun vs H Q E ⟨S, M, ds, R, A, r, t, k⟩ => ⟨S, M, ds, R, A, r, h _ _ _ t, k⟩
def startD (N : List Str) (ds : List D) : List (Option D) := ds.map some ++ List.replicate (N.length - ds.length) none
theorem okD {P : Program} {w : World} {mg : Str → Option Value} {base : Heap} {x qual : Str} {st : Stmt} {f : Addr} {fd : FuncData} {N ps : List Str} {k : Nat} {T : DSp} (F : Fun K x qual st f fd) (S : FnScope N ps (defScope st)) (len : ∀ ds M R, T ds M R → ds.length = ps.length)
    (hbody : ∀ (cdv : Value) (A : Around) (outer : List Env) (s : Shared) (H : Hp) (E : XK), Room k (A.deeper (PyProof.Rows.envOfC qual (defScope st) s.heap.objs.size f cdv)) →
      ∃ t, PSs (cxOf CX0 P w K mg base N qual (defScope st) f cdv A outer s H E).nox (defBody st) t ∧ ∀ ds M R, T ds M R → Es K t ⟨startD N ds, M⟩ { nx := fun s' => R .non s'.M, rt := R }) : FnOk P w K mg base CX0 (k + 1) f fd ps (spOf K T) := by
  refine F.ok S (fun vs H Q E h => ?_) (fun cdv A outer s H vs Q E hr h => ?_)
  · obtain ⟨S, M, ds, R, _, r, t, _⟩ := h
    rw [← r.length]
    exact len _ _ _ t
  · obtain ⟨t, hp, ht⟩ := hbody cdv A outer s H E hr
    obtain ⟨S0, M, ds, R, A0, r, hT, k⟩ := h
    refine ⟨t, hp, ht ds M R hT S0 H _ _ A0 ?_ ⟨fun s' S' H' σ' q e A' r' => k .non s'.M _ S' H' q e A' Rp.non, fun d M' v S' H' q e A' rv => k d M' v S' H' q e A' rv, fun _ _ _ _ q => q.elim, fun _ _ _ _ q => q.elim⟩⟩
    unfold startD L2.start
    rw [r.length]
    exact RpS.start _ r
end
end DL

namespace DL
open PySem L2 Evl
/-! ### a def of the module, by what it does over data -/
structure Df (P : Program) (w : World) (K : PySem.W.Frag) (mg : Str → Option Value) (base : Heap) (k : Nat) (x : Str) (n : Nat) (T : DSp) : Prop where
  ex : ∃ (f : Addr) (fd : FuncData) (ps : List Str), ps.length = n ∧ FnOk P w K mg base CX0 k f fd ps (spOf K T) ∧ mg x = some (.ref f) ∧ PySem.W.keepIn K (.ref f) = true ∧ Binds K fd ps []
section
variable {X : Cx} {k n : Nat} {T : DSp} {x : Str} {p pos : Pos} {e : Expr} {es : List Expr} {t : TA}
theorem pe_callD (F : Df X.prog X.w X.K X.mg X.base k x n T) (hr : Room k X.A) (hg : Gl X x) (ha : PA X (e :: es) t) (hdb : (x == ("__debug__" : Str)) = false := by decide)
    (he : starEach (e :: es) X.env = (false, eval e X.env) :: starEach es X.env := by rfl) (hpl : (backTo pos (starEach es X.env)).any (·.1) = false := by rfl) : PE X (.Call (.Name x p) (e :: es) [] pos) (tCall (spOf X.K T) [] E0 t) := by
  obtain ⟨f, fd, ps, hn, G, hm, kp, b⟩ := F.ex
  exact pe_call G hr hg hm kp b .nil pass0 ha hdb he hpl
theorem pe_callD0 (F : Df X.prog X.w X.K X.mg X.base k x n T) (hr : Room k X.A) (hg : Gl X x) (hdb : (x == ("__debug__" : Str)) = false := by decide) : PE X (.Call (.Name x p) [] [] pos) (tCall (spOf X.K T) [] E0 tNil) := by
  obtain ⟨f, fd, ps, hn, G, hm, kp, b⟩ := F.ex
  exact pe_call0 G hr hg hm kp b .nil pass0 hdb
end
theorem Df.imp {P : Program} {w : World} {K : PySem.W.Frag} {mg : Str → Option Value} {base : Heap} {k n : Nat} {x : Str} {T T' : DSp} (F : Df P w K mg base k x n T) (h : ∀ ds M R, T' ds M R → T ds M R) : Df P w K mg base k x n T' := by
  obtain ⟨f, fd, ps, hn, G, hm, kp, b⟩ := F.ex
  exact ⟨f, fd, ps, hn, G.imp (spOf.imp h), hm, kp, b⟩
theorem Df.mono {P : Program} {w : World} {K : PySem.W.Frag} {mg : Str → Option Value} {base : Heap} {j k n : Nat} {x : Str} {T : DSp} (F : Df P w K mg base j x n T) (h : j ≤ k) : Df P w K mg base k x n T := by
  obtain ⟨f, fd, ps, hn, G, hm, kp, b⟩ := F.ex
  exact ⟨f, fd, ps, hn, G.mono h, hm, kp, b⟩
/-- a def as the top has left it -/
structure Dl (K : PySem.W.Frag) (mg : Str → Option Value) (x : Str) (st : Stmt) : Prop where
  ex : ∃ (f : Addr) (fd : FuncData), Fun K x x st f fd ∧ mg x = some (.ref f)
theorem Dl.ok {P : Program} {w : World} {K : PySem.W.Frag} {mg : Str → Option Value} {base : Heap} {x : Str} {st : Stmt} {N ps : List Str} {k : Nat} {T : DSp} (F : Dl K mg x st) (S : FnScope N ps (defScope st)) (len : ∀ ds M R, T ds M R → ds.length = ps.length)
    (hbind : ∀ (kV doc pm : Value) (an : Option Addr) (cdv ct : Value) (us : List Value), us.length = ps.length → bindArgs (PySem.W.fnOf x x (defArgs st) (defBody st) (defScope st) .none kV doc pm an cdv ct) ⟨us, []⟩ = pure (ps.zip us))
    (hbody : ∀ (f : Addr) (cdv : Value) (A : Around) (outer : List Env) (s : Shared) (H : Hp) (E : XK), Room k (A.deeper (PyProof.Rows.envOfC x (defScope st) s.heap.objs.size f cdv)) →
      ∃ t, PSs (cxOf CX0 P w K mg base N x (defScope st) f cdv A outer s H E).nox (defBody st) t ∧ ∀ ds M R, T ds M R → Es K t ⟨startD N ds, M⟩ { nx := fun s' => R .non s'.M, rt := R }) : Df P w K mg base (k + 1) x ps.length T := by
  obtain ⟨f, fd, Fn, hm⟩ := F.ex
  exact ⟨f, fd, ps, rfl, okD Fn S len (fun cdv A outer s H E hr => hbody f cdv A outer s H E hr), hm, Fn.kp, Fn.binds hbind⟩
theorem dl_mk {K : PySem.W.Frag} {h : Heap} {mg : Str → Option Value} (X : K.In h) (G : h.Ns mainGlobals mg) {x : Str} {st : Stmt} {f : Addr} {oc : Value} {od an : Option Addr} {osl : Array (Option Value)} {kV doc pm cdv ct : Value} (a : PySem.W.nsIn K mainGlobals x = some (some (.ref f)))
    (l : K.lookup f = some ⟨oc, od, .func (PySem.W.fnOf x x (defArgs st) (defBody st) (defScope st) .none kV doc pm an cdv ct), osl⟩) (c : PySem.W.codeIn K cdv x = true) (k : PySem.W.keepIn K (.ref f) = true) : Dl K mg x st :=
  ⟨f, _, fun_mk l c k, PySem.W.mg_of X G a⟩
end DL

namespace DL
open PySem L2 Evl
/-! ### words: the rules by their heads -/
def I1 (x : D) (k : Int → Prop) : Prop := ∃ i, x = .int i ∧ k i
def I2 (x y : D) (k : Int → Int → Prop) : Prop := ∃ i j, x = .int i ∧ y = .int j ∧ k i j
def S1 (x : D) (k : Str → Prop) : Prop := ∃ i, x = .str i ∧ k i
def S2 (x y : D) (k : Str → Str → Prop) : Prop := ∃ i j, x = .str i ∧ y = .str j ∧ k i j
def B1 (x : D) (k : Bool → Prop) : Prop := ∃ b, x = .bl b ∧ k b
def Sc (c k : Prop) : Prop := c ∧ k
def Br (b : Bool) (A B : Prop) : Prop := (b = true → A) ∧ (b = false → B)
/-- a list that is read: frozen, or mutable -/
def L1 (M : MM) (x : D) (k : List D → Prop) : Prop := ∃ xs, (seqL x = some xs ∨ ∃ a, x = .adr a ∧ M a = some (.lst xs)) ∧ k xs
def LL1 (M : MM) (x : D) (k : List D → Prop) : Prop := ∃ xs, (asL x = some xs ∨ ∃ a, x = .adr a ∧ M a = some (.lst xs)) ∧ k xs
def F1 (x : D) (k : List D → Prop) : Prop := ∃ xs, asL x = some xs ∧ k xs
def T1 (x : D) (k : List D → Prop) : Prop := ∃ xs, x = .tup xs ∧ k xs
def N1 (x : D) (k : List D → Prop) : Prop := ∃ xs, x = .lst xs ∧ k xs
def M1 (M : MM) (x : D) (k : Addr → List D → Prop) : Prop := ∃ a xs, x = .adr a ∧ M a = some (.lst xs) ∧ k a xs
def G1 (M : MM) (a : Addr) (k : List D → Prop) : Prop := ∃ xs, M a = some (.lst xs) ∧ k xs
def At1 (xs : List D) (i : Int) (k : D → Prop) : Prop := ∃ d, atI xs i = some d ∧ k d
theorem i1 {i : Int} {k : Int → Prop} (h : k i) : I1 (.int i) k := ⟨i, rfl, h⟩
theorem i2 {i j : Int} {k : Int → Int → Prop} (h : k i j) : I2 (.int i) (.int j) k := ⟨i, j, rfl, rfl, h⟩
theorem s1 {i : Str} {k : Str → Prop} (h : k i) : S1 (.str i) k := ⟨i, rfl, h⟩
theorem s2 {i j : Str} {k : Str → Str → Prop} (h : k i j) : S2 (.str i) (.str j) k := ⟨i, j, rfl, rfl, h⟩
theorem b1 {i : Bool} {k : Bool → Prop} (h : k i) : B1 (.bl i) k := ⟨i, rfl, h⟩
theorem sc {c k : Prop} (hc : c) (h : k) : Sc c k := ⟨hc, h⟩
theorem br_dec {p : Prop} [Decidable p] {A B : Prop} (h1 : p → A) (h2 : ¬ p → B) : Br (decide p) A B := ⟨fun h => h1 (of_decide_eq_true h), fun h => h2 (of_decide_eq_false h)⟩
theorem br_pos {p : Prop} [Decidable p] {A B : Prop} (hp : p) (h : A) : Br (decide p) A B := br_dec (fun _ => h) fun z => absurd hp z
theorem br_neg {p : Prop} [Decidable p] {A B : Prop} (hp : ¬ p) (h : B) : Br (decide p) A B := br_dec (fun z => absurd z hp) fun _ => h
theorem br_not {b : Bool} {A B : Prop} (h : Br b B A) : Br (!b) A B := ⟨fun e => h.2 (by simpa using e), fun e => h.1 (by simpa using e)⟩
theorem br_true {A B : Prop} (h : A) : Br true A B := ⟨fun _ => h, fun z => (by cases z)⟩
theorem br_false {A B : Prop} (h : B) : Br false A B := ⟨fun z => (by cases z), fun _ => h⟩
theorem br_and {a b : Bool} {A B : Prop} (h : Br a (Br b A B) B) : Br (a && b) A B := by
  cases a
  · exact br_false (h.2 rfl)
  · exact h.1 rfl
theorem l1_lst {M : MM} {xs : List D} {k : List D → Prop} (h : k xs) : L1 M (.lst xs) k := ⟨xs, .inl rfl, h⟩
theorem l1_frz {M : MM} {xs : List D} {k : List D → Prop} (h : k xs) : L1 M (.frz xs) k := ⟨xs, .inl rfl, h⟩
theorem l1_tup {M : MM} {xs : List D} {k : List D → Prop} (h : k xs) : L1 M (.tup xs) k := ⟨xs, .inl rfl, h⟩
theorem l1_adr {M : MM} {a : Addr} {xs : List D} {k : List D → Prop} (e : M a = some (.lst xs)) (h : k xs) : L1 M (.adr a) k := ⟨xs, .inr ⟨a, rfl, e⟩, h⟩
theorem ll1_lst {M : MM} {xs : List D} {k : List D → Prop} (h : k xs) : LL1 M (.lst xs) k := ⟨xs, .inl rfl, h⟩
theorem ll1_frz {M : MM} {xs : List D} {k : List D → Prop} (h : k xs) : LL1 M (.frz xs) k := ⟨xs, .inl rfl, h⟩
theorem ll1_adr {M : MM} {a : Addr} {xs : List D} {k : List D → Prop} (e : M a = some (.lst xs)) (h : k xs) : LL1 M (.adr a) k := ⟨xs, .inr ⟨a, rfl, e⟩, h⟩
theorem f1_lst {xs : List D} {k : List D → Prop} (h : k xs) : F1 (.lst xs) k := ⟨xs, rfl, h⟩
theorem f1_frz {xs : List D} {k : List D → Prop} (h : k xs) : F1 (.frz xs) k := ⟨xs, rfl, h⟩
theorem t1 {xs : List D} {k : List D → Prop} (h : k xs) : T1 (.tup xs) k := ⟨xs, rfl, h⟩
theorem n1 {xs : List D} {k : List D → Prop} (h : k xs) : N1 (.lst xs) k := ⟨xs, rfl, h⟩
theorem m1 {M : MM} {a : Addr} {xs : List D} {k : Addr → List D → Prop} (e : M a = some (.lst xs)) (h : k a xs) : M1 M (.adr a) k := ⟨a, xs, rfl, e, h⟩
theorem g1 {M : MM} {a : Addr} {xs : List D} {k : List D → Prop} (e : M a = some (.lst xs)) (h : k xs) : G1 M a k := ⟨xs, e, h⟩
theorem at1 {xs : List D} {i : Int} {d : D} {k : D → Prop} (e : atI xs i = some d) (h : k d) : At1 xs i k := ⟨d, e, h⟩
/-- readings with a mark: a display that stays mutable; a name whose mutable list is frozen -/
@[irreducible] def tLstM (t : TA) : TE := tLst t
@[irreducible] def tVarF (i : Nat) : TE := tVar i
theorem pe_lstM {X : Cx} {es : List Expr} {t : TA} {pos : Pos} (h : PA X es t) : PE X (.List es pos) (tLstM t) := by
  unfold tLstM
  exact pe_lst h
theorem pvF {X : Cx} (i : Nat) {x : Str} {pos : Pos} (hN : X.N[i]? = some x := by rfl) (hv : Vis X.env.scope x := by first | exact Or.inl rfl | exact Or.inr (Or.inl rfl) | exact Or.inr (Or.inr rfl)) (hd : (x == ("__debug__" : Str)) = false := by decide)
    (hcd : (x == ("__classdict__" : Str)) = false := by decide) : PE X (.Name x pos) (tVarF i) := by
  unfold tVarF
  exact pe_var hN hv hd hcd
section
variable {K : PySem.W.Frag} {s : Sd} {Q : D → Sd → Prop} {ta tb te tl : TE} {t u : TT} {d : D} {v : V} {P : Pd} {ts tr tz : TS} {g : TG} {tas : TA}
theorem w_int {i : Int} (q : Q (.int i) s) : Ed K (tC (.int i)) s Q := ed_c q
theorem w_str {i : Str} (q : Q (.str i) s) : Ed K (tC (.str i)) s Q := ed_c q
theorem w_bl {i : Bool} (q : Q (.bl i) s) : Ed K (tC (.bl i)) s Q := ed_c q
theorem w_non (q : Q .non s) : Ed K (tC .non) s Q := ed_c q
theorem w_varF {i : Nat} {a : Addr} {ds : List D} (h : s.ρ[i]? = some (some (.adr a))) (hm : s.M a = some (.lst ds)) (q : Q (.lst ds) ⟨s.ρ.set i (some (.lst ds)), delM s.M a⟩) : Ed K (tVarF i) s Q := by
  unfold tVarF
  exact ed_varF h hm q
theorem w_add (h : Ed K ta s fun x s1 => Ed K tb s1 fun y s2 => I2 x y fun i j => Q (.int (i + j)) s2) : Ed K (tOp (rI0 fun i j => .int (i + j)) ta tb) s Q := ed_opI0 h
theorem w_sub (h : Ed K ta s fun x s1 => Ed K tb s1 fun y s2 => I2 x y fun i j => Q (.int (i - j)) s2) : Ed K (tOp (rI0 fun i j => .int (i - j)) ta tb) s Q := ed_opI0 h
theorem w_mul (h : Ed K ta s fun x s1 => Ed K tb s1 fun y s2 => I2 x y fun i j => Sc (CMul i j) (Q (.int (i * j)) s2)) : Ed K (tOp (rI CMul fun i j => .int (i * j)) ta tb) s Q := ed_opI h
theorem w_mulW (h : Ed K ta s fun x s1 => Ed K tb s1 fun y s2 => I2 x y fun i j => Sc (CMulW i j) (Q (.int (i * j)) s2)) : Ed K (tOp (rI CMulW fun i j => .int (i * j)) ta tb) s Q := ed_opI h
theorem w_mod (h : Ed K ta s fun x s1 => Ed K tb s1 fun y s2 => I2 x y fun i j => Sc (0 < j) (Q (.int (i % j)) s2)) : Ed K (tOp (rI (fun _ j => 0 < j) fun i j => .int (i % j)) ta tb) s Q := ed_opI h
theorem w_fdiv (h : Ed K ta s fun x s1 => Ed K tb s1 fun y s2 => I2 x y fun i j => Sc (CDiv i j) (Q (.int (i / j)) s2)) : Ed K (tOp (rI CDiv fun i j => .int (i / j)) ta tb) s Q := ed_opI h
theorem w_fdivW (h : Ed K ta s fun x s1 => Ed K tb s1 fun y s2 => I2 x y fun i j => Sc (CDivW i j) (Q (.int (i / j)) s2)) : Ed K (tOp (rI CDivW fun i j => .int (i / j)) ta tb) s Q := ed_opI h
theorem w_pow (h : Ed K ta s fun x s1 => Ed K tb s1 fun y s2 => I2 x y fun i j => Sc (CPow i j) (Q (.int (i ^ j.toNat)) s2)) : Ed K (tOp (rI CPow fun i j => .int (i ^ j.toNat)) ta tb) s Q := ed_opI h
theorem w_lt (h : Ed K ta s fun x s1 => Ed K tb s1 fun y s2 => I2 x y fun i j => Q (.bl (decide (i < j))) s2) : Ed K (tOp (rI0 fun i j => .bl (decide (i < j))) ta tb) s Q := ed_opI0 h
theorem w_le (h : Ed K ta s fun x s1 => Ed K tb s1 fun y s2 => I2 x y fun i j => Q (.bl (decide (i ≤ j))) s2) : Ed K (tOp (rI0 fun i j => .bl (decide (i ≤ j))) ta tb) s Q := ed_opI0 h
theorem w_gt (h : Ed K ta s fun x s1 => Ed K tb s1 fun y s2 => I2 x y fun i j => Q (.bl (decide (j < i))) s2) : Ed K (tOp (rI0 fun i j => .bl (decide (j < i))) ta tb) s Q := ed_opI0 h
theorem w_ge (h : Ed K ta s fun x s1 => Ed K tb s1 fun y s2 => I2 x y fun i j => Q (.bl (decide (j ≤ i))) s2) : Ed K (tOp (rI0 fun i j => .bl (decide (j ≤ i))) ta tb) s Q := ed_opI0 h
theorem w_neg (h : Ed K ta s fun x s1 => I1 x fun i => Q (.int (-i)) s1) : Ed K (tUn (rU fun i => .int (-i)) ta) s Q := ed_un h
/-- == of ints, texts, bools, None -/
def scalD : D → D → Bool
  | .int _, .int _ => true
  | .str _, .str _ => true
  | .bl _, .bl _ => true
  | .non, .non => true
  | _, _ => false
inductive ScEq : D → D → Prop → Prop
  | int (i j : Int) : ScEq (.int i) (.int j) (i = j)
  | str (i j : Str) : ScEq (.str i) (.str j) (i = j)
  | bl (i j : Bool) : ScEq (.bl i) (.bl j) (i = j)
def E2 (x y : D) (k : (p : Prop) → [Decidable p] → Prop) : Prop := ∃ (p : Prop) (_ : Decidable p), ScEq x y p ∧ k p
theorem e2_int {i j : Int} {k : (p : Prop) → [Decidable p] → Prop} (h : k (i = j)) : E2 (.int i) (.int j) k := ⟨_, inferInstance, .int i j, h⟩
theorem e2_str {i j : Str} {k : (p : Prop) → [Decidable p] → Prop} (h : k (i = j)) : E2 (.str i) (.str j) k := ⟨_, inferInstance, .str i j, h⟩
theorem e2_bl {i j : Bool} {k : (p : Prop) → [Decidable p] → Prop} (h : k (i = j)) : E2 (.bl i) (.bl j) k := ⟨_, inferInstance, .bl i j, h⟩
theorem ScEq.of {S : Hp} {x y : D} {p : Prop} [Decidable p] {v w : V} (e : ScEq x y p) (rx : Rp K S x v) (ry : Rp K S y w) : scal v w = true ∧ decide (v = w) = decide p := by
  cases e with
  | int i j =>
    rw [rx.int_of, ry.int_of]
    exact ⟨rfl, by simp⟩
  | str i j =>
    rw [rx.str_of, ry.str_of]
    exact ⟨rfl, by simp⟩
  | bl i j =>
    rw [rx.bl_of, ry.bl_of]
    exact ⟨rfl, by simp⟩
theorem w_eq (h : Ed K ta s fun x s1 => Ed K tb s1 fun y s2 => E2 x y fun p => Q (.bl (decide p)) s2) : Ed K (tOp rEq ta tb) s Q := fun S H σ A r R k =>
  h S H σ A r _ fun x s1 v S1 H1 h1 e1 A1 r1 rx => h1 S1 H1 σ A1 r1 _ fun y s2 w S2 H2 h2 e2 A2 r2 ry => by
    obtain ⟨p, dp, hp, q⟩ := h2
    obtain ⟨h3, h4⟩ := hp.of (rx.mono e2) ry
    refine ⟨h3, k _ s2 _ S2 H2 q (e1.trans e2) A2 r2 ?_⟩
    rw [h4]
    exact Rp.bl
theorem w_ne (h : Ed K ta s fun x s1 => Ed K tb s1 fun y s2 => E2 x y fun p => Q (.bl (!decide p)) s2) : Ed K (tOp rNe ta tb) s Q := fun S H σ A r R k =>
  h S H σ A r _ fun x s1 v S1 H1 h1 e1 A1 r1 rx => h1 S1 H1 σ A1 r1 _ fun y s2 w S2 H2 h2 e2 A2 r2 ry => by
    obtain ⟨p, dp, hp, q⟩ := h2
    obtain ⟨h3, h4⟩ := hp.of (rx.mono e2) ry
    refine ⟨h3, k _ s2 _ S2 H2 q (e1.trans e2) A2 r2 ?_⟩
    rw [h4]
    exact Rp.bl
theorem w_isN (h : Ed K ta s fun x s1 => Q (.bl (isN x)) s1) : Ed K (tIsN ta) s Q := ed_isN h
theorem w_notN (h : Ed K ta s fun x s1 => Q (.bl (!isN x)) s1) : Ed K (tNotN ta) s Q := ed_notN h
theorem w_test {Q : Bool → Sd → Prop} (h : Ed K te s fun x s1 => B1 x fun b => Q b s1) : Et K (tTest te) s Q := et_test h
theorem w_B {Q : Bool → Sd → Prop} (h : Ed K te s fun x s1 => B1 x fun b => Q b s1) : Et K (tB te) s Q := et_B h
theorem w_and {Q : Bool → Sd → Prop} (h : Et K t s fun b s1 => Br b (Et K u s1 Q) (Q false s1)) : Et K (tAnd t u) s Q := et_and h
theorem w_or {Q : Bool → Sd → Prop} (h : Et K t s fun b s1 => Br b (Q true s1) (Et K u s1 Q)) : Et K (tOr t u) s Q := et_or h
theorem w_not {Q : Bool → Sd → Prop} (h : Et K t s fun b s1 => Q (!b) s1) : Et K (tNot t) s Q := et_not h
theorem w_andV (h : Ed K ta s fun x s1 => B1 x fun b => Br b (Ed K tb s1 Q) (Q (.bl false) s1)) : Ed K (tAndV ta tb) s Q := ed_andV h
theorem w_orV (h : Ed K ta s fun x s1 => B1 x fun b => Br b (Q (.bl true) s1) (Ed K tb s1 Q)) : Ed K (tOrV ta tb) s Q := ed_orV h
theorem w_notV (h : Ed K ta s fun x s1 => B1 x fun b => Q (.bl (!b)) s1) : Ed K (tNotV ta) s Q := ed_notV h
theorem w_ife (h : Et K t s fun b s1 => Br b (Ed K ta s1 Q) (Ed K tb s1 Q)) : Ed K (tIf t ta tb) s Q := ed_if h
theorem w_lst (h : Ea K tas s fun xs s1 => Sc (xs.length ≤ sizeLine) (Q (.lst xs) s1)) : Ed K (tLst tas) s Q := ed_lst h
theorem w_lstM (h : Ea K tas s fun xs s1 => Sc (xs.length ≤ sizeLine) (∀ p, s1.M p = none → Q (.adr p) ⟨s1.ρ, updM s1.M p (.lst xs)⟩)) : Ed K (tLstM tas) s Q := by
  unfold tLstM
  exact ed_lstM h
theorem w_tup (h : Ea K tas s fun xs s1 => Sc (xs.length ≤ sizeLine) (Q (.tup xs) s1)) : Ed K (tTup tas) s Q := ed_tup h
theorem w_ixL (h : Ed K ta s fun x s1 => Ed K tb s1 fun y s2 => LL1 s2.M x fun xs => I1 y fun i => At1 xs i fun d => Q d s2) : Ed K (tOp (rIxL K) ta tb) s Q := fun S H σ A r R k =>
  h S H σ A r _ fun x s1 v S1 H1 h1 e1 A1 r1 rx => h1 S1 H1 σ A1 r1 _ fun y s2 w S2 H2 h2 e2 A2 r2 ry => by
    obtain ⟨xs, hx, i, rfl, d, hd, q⟩ := h2
    have go : ∃ a vs, v = .ref a ∧ SqL K H2 a vs ∧ RpL K S2 xs vs := by
      rcases hx with hx | ⟨a, rfl, hm⟩
      · obtain ⟨a, vs, rfl, hl, rl⟩ := (rx.mono e2).asL_of hx
        exact ⟨a, vs, rfl, ex_l A2.ex hl, rl⟩
      · obtain rfl := rx.oth_of
        obtain ⟨_, u, hu, ro⟩ := A2.mm a _ hm
        obtain ⟨vs, rfl, rl⟩ := ro.lst_of
        exact ⟨a, vs, rfl, SqL.of hu, rl⟩
    obtain ⟨a, vs, rfl, hl, rl⟩ := go
    obtain ⟨v', hv, rv⟩ := atI_map rl hd
    exact ⟨a, vs, i, v', rfl, ry.int_of, hl, hv, k _ s2 _ S2 H2 q (e1.trans e2) A2 r2 rv⟩
theorem w_ixT (h : Ed K ta s fun x s1 => Ed K tb s1 fun y s2 => T1 x fun xs => I1 y fun i => At1 xs i fun d => Q d s2) : Ed K (tOp (rIxT K) ta tb) s Q :=
  ed_ixT (h.imp fun _ _ h1 => h1.imp fun _ _ ⟨xs, hx, i, hy, d, hd, q⟩ => ⟨xs, i, d, hx, hy, hd, q⟩)
theorem w_part {Q : Option Int → Sd → Prop} (h : Ed K te s fun x s1 => I1 x fun i => Q (some i) s1) : Eo K (tPart te) s Q := eo_some h
theorem w_slL {tl th : TO} (h : Ed K te s fun x s1 => Eo K tl s1 fun lo s2 => Eo K th s2 fun hi s3 => LL1 s3.M x fun xs => Q (.lst (cutD xs lo hi)) s3) : Ed K (tSl (rSlL K) te tl th) s Q := fun S H σ A r R k =>
  h S H σ A r _ fun x s1 v S1 H1 h1 e1 A1 r1 rx => h1 S1 H1 σ A1 r1 _ fun lo s2 S2 H2 h2 e2 A2 r2 => h2 S2 H2 σ A2 r2 _ fun hi s3 S3 H3 h3 e3 A3 r3 => by
    obtain ⟨xs, hx, q⟩ := h3
    have go : ∃ a vs, v = .ref a ∧ SqL K H3 a vs ∧ RpL K S3 xs vs := by
      rcases hx with hx | ⟨a, rfl, hm⟩
      · obtain ⟨a, vs, rfl, hl, rl⟩ := (rx.mono (e2.trans e3)).asL_of hx
        exact ⟨a, vs, rfl, ex_l A3.ex hl, rl⟩
      · obtain rfl := rx.oth_of
        obtain ⟨_, u, hu, ro⟩ := A3.mm a _ hm
        obtain ⟨vs, rfl, rl⟩ := ro.lst_of
        exact ⟨a, vs, rfl, SqL.of hu, rl⟩
    obtain ⟨a, vs, rfl, hl, rl⟩ := go
    refine ⟨a, vs, rfl, hl, fun p hp => ?_⟩
    obtain ⟨A4, e4⟩ := A3.new hp (.lst (cutV vs lo hi))
    exact k _ s3 _ _ _ q ((e1.trans (e2.trans e3)).trans e4) A4 (r3.mono e4) (Rp.lst upd_same (RpL.mono e4 _ _ (rl.cut lo hi)))
theorem w_cat (h : Ed K ta s fun x s1 => Ed K tb s1 fun y s2 => N1 x fun xs => N1 y fun ys => Sc (xs.length + ys.length ≤ sizeLine) (Q (.lst (xs ++ ys)) s2)) : Ed K (tOp rCat ta tb) s Q :=
  ed_cat (h.imp fun _ _ h1 => h1.imp fun _ _ ⟨xs, hx, ys, hy, hz, q⟩ => ⟨xs, ys, hx, hy, hz, q⟩)
theorem w_len (h : Ed K ta s fun x s1 => L1 s1.M x fun xs => Q (.int (xs.length : Int)) s1) : Ed K (tCB (fun xs H Q => ∃ p ys, xs = [.ref p] ∧ (SqL K H p ys ∨ SqT K H p ys) ∧ Q (.int ys.length) H) (tCons ta tNil)) s Q := fun S H σ A r R k =>
  h S H σ A r _ fun x s1 v S1 H1 h1 e1 A1 r1 rx => by
    obtain ⟨xs, hx, q⟩ := h1
    have go : ∃ a vs, v = .ref a ∧ (SqL K H1 a vs ∨ SqT K H1 a vs) ∧ RpL K S1 xs vs := by
      rcases hx with hx | ⟨a, rfl, hm⟩
      · obtain ⟨a, vs, rfl, hl, rl⟩ := rx.seqL_of hx
        exact ⟨a, vs, rfl, hl.elim (fun z => .inl (ex_l A1.ex z)) fun z => .inr (ex_t A1.ex z), rl⟩
      · obtain rfl := rx.oth_of
        obtain ⟨_, u, hu, ro⟩ := A1.mm a _ hm
        obtain ⟨vs, rfl, rl⟩ := ro.lst_of
        exact ⟨a, vs, rfl, .inl (SqL.of hu), rl⟩
    obtain ⟨a, vs, rfl, hl, rl⟩ := go
    refine ⟨a, vs, rfl, hl, ?_⟩
    rw [← rl.length]
    exact k _ s1 _ S1 H1 q e1 A1 r1 Rp.int
theorem w_list (h : Ed K ta s fun x s1 => L1 s1.M x fun xs => Q (.lst xs) s1) : Ed K (tCB (fun xs H Q => ∃ p ys, xs = [.ref p] ∧ (SqL K H p ys ∨ SqT K H p ys) ∧ ∀ l, H l = none → Q (.ref l) (upd H l (.lst ys))) (tCons ta tNil)) s Q := fun S H σ A r R k =>
  h S H σ A r _ fun x s1 v S1 H1 h1 e1 A1 r1 rx => by
    obtain ⟨xs, hx, q⟩ := h1
    have go : ∃ a vs, v = .ref a ∧ (SqL K H1 a vs ∨ SqT K H1 a vs) ∧ RpL K S1 xs vs := by
      rcases hx with hx | ⟨a, rfl, hm⟩
      · obtain ⟨a, vs, rfl, hl, rl⟩ := rx.seqL_of hx
        exact ⟨a, vs, rfl, hl.elim (fun z => .inl (ex_l A1.ex z)) fun z => .inr (ex_t A1.ex z), rl⟩
      · obtain rfl := rx.oth_of
        obtain ⟨_, u, hu, ro⟩ := A1.mm a _ hm
        obtain ⟨vs, rfl, rl⟩ := ro.lst_of
        exact ⟨a, vs, rfl, .inl (SqL.of hu), rl⟩
    obtain ⟨a, vs, rfl, hl, rl⟩ := go
    refine ⟨a, vs, rfl, hl, fun p hp => ?_⟩
    obtain ⟨A4, e4⟩ := A1.new hp (.lst vs)
    exact k _ s1 _ _ _ q (e1.trans e4) A4 (r1.mono e4) (Rp.lst upd_same (RpL.mono e4 _ _ rl))
theorem w_int1 (h : Ed K ta s fun x s1 => I1 x fun i => Q (.int i) s1) : Ed K (tCB (fun xs H Q => (∃ i, xs = [.int i] ∧ Q (.int i) H) ∨ ∃ k, xs = [.bl k] ∧ Q (.int (if k then 1 else 0)) H) (tCons ta tNil)) s Q := ed_int h
theorem w_app (h : Ed K ta s fun x s1 => M1 s1.M x fun a xs => Ed K tb s1 fun y s2 => G1 s2.M a fun xs' => Sc (xs'.length < sizeLine) (Q .non ⟨s2.ρ, updM s2.M a (.lst (xs' ++ [y]))⟩)) : Ed K (tBM K "list" rAppend ta (tCons tb tNil)) s Q := ed_app h
theorem w_ext (h : Ed K ta s fun x s1 => M1 s1.M x fun a xs => Ed K tb s1 fun y s2 => N1 y fun ys => G1 s2.M a fun xs' => Sc (xs'.length + ys.length ≤ sizeLine) (Q .non ⟨s2.ρ, updM s2.M a (.lst (xs' ++ ys))⟩)) : Ed K (tBM K "list" rExtend ta (tCons tb tNil)) s Q :=
  ed_ext (h.imp fun _ _ ⟨a, xs, hx, hm, h1⟩ => ⟨a, xs, hx, hm, h1.imp fun _ _ ⟨ys, hy, xs', hm', hz, q⟩ => ⟨xs', ys, hy, hm', hz, q⟩⟩)
theorem w_pop (h : Ed K ta s fun x s1 => M1 s1.M x fun a xs => ∃ y, xs[xs.length - 1]? = some y ∧ Q y ⟨s1.ρ, updM s1.M a (.lst xs.dropLast)⟩) : Ed K (tBM0 K "list" rPop ta) s Q :=
  ed_pop (h.imp fun _ _ ⟨a, xs, hx, hm, y, hy, q⟩ => ⟨a, xs, y, hx, hm, hy, q⟩)
theorem w_call {T : DSp} {E : XK} (h : Ea K tas s fun ds s1 => T ds s1.M fun d M' => Q d ⟨s1.ρ, M'⟩) : Ed K (tCall (spOf K T) [] E tas) s Q := ed_call h
theorem w_if (h : Et K t s fun b s' => Br b (Es K ts s' P) (Es K tr s' P)) : Es K (tIfS t ts tr) s P := es_if h
theorem w_aug {i : Nat} {f : Int → Int → Int} {a : Int} (h0 : s.ρ[i]? = some (some (.int a))) (h : Ed K te s fun d s' => I1 d fun b => P.nx ⟨s'.ρ.set i (some (.int (f a b))), s'.M⟩) : Es K (tAug i te (ipI f)) s P := es_aug h0 h
theorem w_setM {Q : Sd → Prop} (h : Ed K ta s fun x s1 => Ed K tb s1 fun y s2 => M1 s2.M x fun a xs => I1 y fun i => ∃ j, ixN xs.length i = some j ∧ Q ⟨s2.ρ, updM s2.M a (.lst (xs.set j d))⟩) : Eg K (gSub ta tb rSetL) d s Q :=
  eg_setM (h.imp fun _ _ h1 => h1.imp fun _ _ ⟨a, xs, hx, hm, i, hy, j, hj, q⟩ => ⟨a, xs, i, j, hx, hy, hm, hj, q⟩)
theorem w_tupT {n : Nat} {gs : TGs} {Q : Sd → Prop} (h : T1 d fun ds => Sc (ds.length = n) (Egs K gs ds s Q)) : Eg K (gTup K n gs) d s Q := eg_tup h
theorem w_iL {Q : List D → Sd → Prop} (h : Ed K tl s fun d s' => F1 d fun ds => Q ds s') : Ei K (iList K tl) s Q := ei_list h
theorem w_iT {Q : List D → Sd → Prop} (h : Ed K tl s fun d s' => T1 d fun ds => Q ds s') : Ei K (iTup K tl) s Q := ei_tup h
theorem w_iR1 {Q : List D → Sd → Prop} (h : Ed K tl s fun d s' => I1 d fun n => Sc (-(2 ^ 62) ≤ n ∧ n < 2 ^ 62) (Q (rangeD 0 n.toNat) s')) : Ei K (iRng1 (tCons tl tNil)) s Q :=
  ei_rng1 (ea_cons (h.imp fun _ _ ⟨n, hn, hz, q⟩ => ea_nil ⟨n, by rw [hn], hz.1, hz.2, q⟩))
theorem w_iR2 {Q : List D → Sd → Prop} (h : Ed K ta s fun d s1 => Ed K tb s1 fun e s' => I2 d e fun i n => Sc (-(2 ^ 62) ≤ i ∧ i < 2 ^ 62 ∧ -(2 ^ 62) ≤ n ∧ n < 2 ^ 62) (Q (rangeD i (n - i).toNat) s')) : Ei K (iRng2 (tCons ta (tCons tb tNil))) s Q :=
  ei_rng2 (ea_cons (h.imp fun _ _ h1 => ea_cons (h1.imp fun _ _ ⟨i, n, hi, hn, hz, q⟩ => ea_nil ⟨i, n, by rw [hi, hn], hz, q⟩)))
theorem w_iRev {Q : List D → Sd → Prop} (h : Ed K tl s fun d s' => F1 d fun ds => Q ds.reverse s') : Ei K (iRev K (tCons tl tNil)) s Q :=
  ei_rev (ea_cons (h.imp fun _ _ ⟨ds, hd, q⟩ => ea_nil ⟨_, ds, rfl, hd, q⟩))
end
end DL
open DL in
local macro_rules | `(tactic| walk_at "mm") => `(tactic| first | assumption | exact updM_same | (refine updM_get ?_ ?_ <;> first | assumption | (apply Ne.symm; assumption) | walk_at "mm"))

namespace DL
open PySem L2 Evl
/-! ### == of data -/
mutual
def toP : D → PyData
  | .non => .none
  | .bl b => .bool b
  | .int i => .int i
  | .str x => .str x
  | .lst xs => .list (toPL xs)
  | .frz xs => .list (toPL xs)
  | .tup xs => .tuple (toPL xs)
  | .oth _ => .none
def toPL : List D → List PyData
  | [] => []
  | x :: xs => toP x :: toPL xs
end
/-- data that can be compared, of depth n at most -/
def cmpD : Nat → D → Prop
  | _, .non => True
  | _, .bl _ => True
  | _, .int _ => True
  | _, .str x => PySem.PyData.strOk x = true
  | n + 1, .lst xs => ∀ x ∈ xs, cmpD n x
  | n + 1, .frz xs => ∀ x ∈ xs, cmpD n x
  | n + 1, .tup xs => ∀ x ∈ xs, cmpD n x
  | 0, .lst _ => False
  | 0, .frz _ => False
  | 0, .tup _ => False
  | _, .oth _ => False
section
variable {K : PySem.W.Frag} {S : Hp}
theorem lay_all : ∀ {xs : List D} {n : Nat}, (∀ x ∈ xs, (toP x).canLay0 = true ∧ (toP x).depth ≤ n) → PyData.canLayAll0 (toPL xs) = true ∧ PyData.depthAll (toPL xs) ≤ n
  | [], n, h => by simp [toPL, PyData.canLayAll0, PyData.depthAll]
  | x :: xs, n, h => by
    have h1 := h x List.mem_cons_self
    have h2 := lay_all (xs := xs) (n := n) fun y hy => h y (List.mem_cons_of_mem _ hy)
    simp only [toPL, PyData.canLayAll0, PyData.depthAll, h1.1, h2.1, Bool.and_self, true_and]
    omega
theorem cmpD_lay : ∀ (n : Nat) (d : D), cmpD n d → (toP d).canLay0 = true ∧ (toP d).depth ≤ n
  | n, .non, _ => by simp [toP, PyData.canLay0, PyData.depth]
  | n, .bl _, _ => by simp [toP, PyData.canLay0, PyData.depth]
  | n, .int _, _ => by simp [toP, PyData.canLay0, PyData.depth]
  | n, .str x, h => by
    have h : PySem.PyData.strOk x = true := by cases n <;> exact h
    simp [toP, PyData.canLay0, PyData.depth, h]
  | 0, .lst _, h => h.elim
  | 0, .frz _, h => h.elim
  | 0, .tup _, h => h.elim
  | n + 1, .lst xs, h => by
    have := lay_all (xs := xs) (n := n) fun x hx => cmpD_lay n x (h x hx)
    simp only [toP, PyData.canLay0, PyData.depth]
    exact ⟨this.1, by omega⟩
  | n + 1, .frz xs, h => by
    have := lay_all (xs := xs) (n := n) fun x hx => cmpD_lay n x (h x hx)
    simp only [toP, PyData.canLay0, PyData.depth]
    exact ⟨this.1, by omega⟩
  | n + 1, .tup xs, h => by
    have := lay_all (xs := xs) (n := n) fun x hx => cmpD_lay n x (h x hx)
    simp only [toP, PyData.canLay0, PyData.depth]
    exact ⟨this.1, by omega⟩
  | n, .oth _, h => by cases n <;> exact h.elim
theorem cmpD_shaped {d : D} (h : cmpD 64 d) : SeqAt.shaped (toP d) = true := by
  obtain ⟨h1, h2⟩ := cmpD_lay 64 d h
  unfold SeqAt.shaped
  rw [h1, decide_eq_true h2]
  rfl
theorem dp_all : ∀ {xs : List D} {vs : List V}, (∀ x ∈ xs, ∀ v, Rp K S x v → Dp K S v (toP x)) → RpL K S xs vs → DpAll K S vs (toPL xs)
  | [], vs, _, r => by
    rw [r.nil_of, toPL]
    exact .nil
  | x :: xs, vs, h, r => by
    obtain ⟨v, us, rfl, r1, r2⟩ := r.cons_of
    rw [toPL]
    exact .cons (h x List.mem_cons_self v r1) (dp_all (fun y hy => h y (List.mem_cons_of_mem _ hy)) r2)
theorem Rp.dp : ∀ (n : Nat) (d : D) (v : V), cmpD n d → Rp K S d v → Dp K S v (toP d)
  | n, .non, v, _, r => by rw [r.non_of, toP]; exact .non
  | n, .bl _, v, _, r => by rw [r.bl_of, toP]; exact .bl _
  | n, .int _, v, _, r => by rw [r.int_of, toP]; exact .int _
  | n, .str _, v, _, r => by rw [r.str_of, toP]; exact .str _
  | 0, .lst _, v, h, r => h.elim
  | 0, .frz _, v, h, r => h.elim
  | 0, .tup _, v, h, r => h.elim
  | n + 1, .lst xs, v, h, r => by
    obtain ⟨a, vs, rfl, ha, rl⟩ := r.lst_of
    rw [toP]
    exact .lst (SqL.of ha) (dp_all (fun x hx v => Rp.dp n x v (h x hx)) rl)
  | n + 1, .frz xs, v, h, r => by
    obtain ⟨a, vs, rfl, ha, rl⟩ := r.frz_of
    rw [toP]
    exact .lst ha (dp_all (fun x hx v => Rp.dp n x v (h x hx)) rl)
  | n + 1, .tup xs, v, h, r => by
    obtain ⟨a, vs, rfl, ha, rl⟩ := r.tup_of
    rw [toP]
    exact .tup ha (dp_all (fun x hx v => Rp.dp n x v (h x hx)) rl)
  | n, .oth _, v, h, r => by cases n <;> exact h.elim
end
mutual
theorem dp_mono {K : PySem.W.Frag} {S S' : Hp} (e : Ex S S') : ∀ (d : PyData) (v : V), Dp K S v d → Dp K S' v d
  | .none, _, h => by cases h; exact .non
  | .bool _, _, h => by cases h; exact .bl _
  | .int _, _, h => by cases h; exact .int _
  | .str _, _, h => by cases h; exact .str _
  | .list ds, _, h => by cases h with | lst h1 h2 => exact .lst (ex_l e h1) (dpAll_mono e ds _ h2)
  | .tuple ds, _, h => by cases h with | tup h1 h2 => exact .tup (ex_t e h1) (dpAll_mono e ds _ h2)
  | .dict _, _, h => by cases h
theorem dpAll_mono {K : PySem.W.Frag} {S S' : Hp} (e : Ex S S') : ∀ (ds : List PyData) (vs : List V), DpAll K S vs ds → DpAll K S' vs ds
  | [], _, h => by cases h; exact .nil
  | d :: ds, _, h => by cases h with | cons h1 h2 => exact .cons (dp_mono e d _ h1) (dpAll_mono e ds _ h2)
end
def eqD (x y : D) : Bool := PyData.eqv (toP x) (toP y)
theorem eqD_refl {n : Nat} {x : D} (h : cmpD n x) : eqD x x = true := PySem.SeqAt.eqv_refl _ (cmpD_lay n x h).1
section
variable {K : PySem.W.Frag} {s : Sd} {Q : D → Sd → Prop} {ta tb : TE}
theorem w_eqD (h : Ed K ta s fun x s1 => Ed K tb s1 fun y s2 => Sc (cmpD 64 x ∧ cmpD 64 y) (Q (.bl (eqD x y)) s2)) : Ed K (tOp (rEqD K) ta tb) s Q := fun S H σ A r R k =>
  h S H σ A r _ fun x s1 v S1 H1 h1 e1 A1 r1 rx => h1 S1 H1 σ A1 r1 _ fun y s2 w S2 H2 h2 e2 A2 r2 ry =>
    ⟨toP x, toP y, dp_mono A2.ex _ _ ((rx.mono e2).dp 64 x v h2.1.1), dp_mono A2.ex _ _ (ry.dp 64 y w h2.1.2), cmpD_shaped h2.1.1, cmpD_shaped h2.1.2, k _ s2 _ S2 H2 h2.2 (e1.trans e2) A2 r2 Rp.bl⟩
theorem w_neD (h : Ed K ta s fun x s1 => Ed K tb s1 fun y s2 => Sc (cmpD 64 x ∧ cmpD 64 y) (Q (.bl (!eqD x y)) s2)) : Ed K (tOp (rNeD K) ta tb) s Q := fun S H σ A r R k =>
  h S H σ A r _ fun x s1 v S1 H1 h1 e1 A1 r1 rx => h1 S1 H1 σ A1 r1 _ fun y s2 w S2 H2 h2 e2 A2 r2 ry =>
    ⟨toP x, toP y, dp_mono A2.ex _ _ ((rx.mono e2).dp 64 x v h2.1.1), dp_mono A2.ex _ _ (ry.dp 64 y w h2.1.2), cmpD_shaped h2.1.1, cmpD_shaped h2.1.2, k _ s2 _ S2 H2 h2.2 (e1.trans e2) A2 r2 Rp.bl⟩
/-- known to be equal -/
theorem br_eqD {n : Nat} {x y : D} {A B : Prop} (h : x = y) (o : cmpD n x) (k : A) : Br (eqD x y) A B := by
  subst h
  rw [eqD_refl o]
  exact br_true k
theorem cmpD_ints {n : Nat} {l : List Int} : cmpD (n + 1) (.lst (l.map .int)) := fun x hx => by
  obtain ⟨i, _, rfl⟩ := List.mem_map.mp hx
  cases n <;> trivial
theorem cmpD_intsF {n : Nat} {l : List Int} : cmpD (n + 1) (.frz (l.map .int)) := fun x hx => by
  obtain ⟨i, _, rfl⟩ := List.mem_map.mp hx
  cases n <;> trivial
/-- a module's constant -/
theorem pe_cst {X : Cx} {x : Str} {v : V} {pos : Pos} (hg : Gl X x) (hm : ∃ u, X.mg x = some u ∧ RelV v u) (hd : (x == ("__debug__" : Str)) = false := by decide) : PE X (.Name x pos) (tC v) := by
  obtain ⟨u, h1, h2⟩ := hm
  exact pe_glob hg h1 h2 hd
/-- a loop whose turns fold: the state by what is carried and the item's slot -/
theorem lp_fold {P : Pd} {g : TG} {ts : TS} {α : Type} (st : α → Option D → Sd) (f : α → D → α) : ∀ (ds : List D) (a : α) (x : Option D), (∀ a x d, d ∈ ds → ∀ N : Sd → Prop, (∀ x', N (st (f a d) x')) → Eg K g d (st a x) fun s2 => Es K ts s2 { P with nx := N, ct := N, bk := P.nx }) → (∀ x, P.nx (st (ds.foldl f a) x)) → Lp K g ts P ds (st a x)
  | [], a, x, _, h => h x
  | d :: ds, a, x, hs, h => hs a x d List.mem_cons_self _ fun x' => lp_fold st f ds (f a d) x' (fun a x d hd => hs a x d (List.mem_cons_of_mem _ hd)) h
end
end DL

namespace DL
open PySem L2 Evl
section
variable {K : PySem.W.Frag} {s : Sd} {P : Pd} {ts tr : TS} {g : TG}
theorem es_cut (I : Sd → Prop) (h1 : Es K ts s { P with nx := I }) (h2 : ∀ s', I s' → Es K tr s' P) : Es K (tSeq ts tr) s P := es_seq (h1.imp h2 (fun _ _ h => h) (fun _ h => h) fun _ h => h)
/-- a loop all of whose turns keep a word -/
theorem lp_keep {I : Sd → Prop} : ∀ (ds : List D) (s : Sd), I s → (∀ d ∈ ds, ∀ s', I s' → Eg K g d s' fun s2 => Es K ts s2 { P with nx := I, ct := I, bk := P.nx }) → (∀ s', I s' → P.nx s') → Lp K g ts P ds s
  | [], s, h, _, hd => hd s h
  | d :: ds, s, h, hs, hd => by
    intro S H σ v A r rv R k
    refine hs d List.mem_cons_self s h S H σ v A r rv R fun s2 S2 H2 σ2 q => k s2 S2 H2 σ2 ?_
    have nxt : ∀ s2, I s2 → Lp K g ts P ds s2 := fun s2 h2 => lp_keep ds s2 h2 (fun d hd' => hs d (List.mem_cons_of_mem _ hd')) hd
    exact q.imp nxt (fun _ _ z => z) (fun _ z => z) nxt
end
def fI {α : Type} (g : α → Int → α) : α → D → α := fun t d => match d with | .int o => g t o | _ => t
theorem foldl_fI {α : Type} (g : α → Int → α) : ∀ (os : List Int) (t : α), (os.map D.int).foldl (fI g) t = os.foldl g t
  | [], t => rfl
  | o :: os, t => foldl_fI g os (g t o)
theorem mem_ints {d : D} {os : List Int} (h : d ∈ os.map D.int) : ∃ o ∈ os, d = .int o := by
  obtain ⟨o, ho, e⟩ := List.mem_map.mp h
  exact ⟨o, ho, e.symm⟩
theorem atI_ints {os : List Int} {i : Int} {j : Nat} {o : Int} (e : i = (j : Int)) (h : os[j]? = some o) : atI (os.map D.int) i = some (.int o) := by
  rw [e]
  exact atI_nat (by rw [List.getElem?_map, h]; rfl)
theorem sIx_nn {n d : Nat} {i : Int} (h0 : 0 ≤ i) (h : i ≤ (n : Int)) : HT.sIx n d (some i) = i.toNat := by
  show (if i < 0 then (i + (n : Int)).toNat else min i.toNat n) = i.toNat
  rw [if_neg (by omega), Nat.min_eq_left (by omega)]
theorem cutD_nn (xs : List D) {i j : Int} (hi : 0 ≤ i) (hij : i ≤ j) (hj : j ≤ (xs.length : Int)) : cutD xs (some i) (some j) = (xs.drop i.toNat).take (j - i).toNat := by
  unfold cutD
  rw [sIx_nn hi (by omega), sIx_nn (by omega) hj]
  congr 1
  omega
theorem cutD_to (xs : List D) {j : Int} (hj0 : 0 ≤ j) : cutD xs none (some j) = xs.take j.toNat := by
  unfold cutD
  rw [HT.sIx_none, List.drop_zero, Nat.sub_zero]
  show xs.take (if j < 0 then (j + (xs.length : Int)).toNat else min j.toNat xs.length) = _
  rw [if_neg (by omega)]
  by_cases h : j.toNat ≤ xs.length
  · rw [Nat.min_eq_left h]
  · rw [Nat.min_eq_right (by omega), List.take_of_length_le (Nat.le_refl _), List.take_of_length_le (by omega)]
theorem cutD_from (xs : List D) {i : Int} (hi : 0 ≤ i) : cutD xs (some i) none = xs.drop i.toNat := by
  unfold cutD
  rw [HT.sIx_none]
  show (xs.drop (if i < 0 then (i + (xs.length : Int)).toNat else min i.toNat xs.length)).take (xs.length - (if i < 0 then (i + (xs.length : Int)).toNat else min i.toNat xs.length)) = _
  rw [if_neg (by omega)]
  by_cases h : i.toNat ≤ xs.length
  · rw [Nat.min_eq_left h, List.take_of_length_le (by rw [List.length_drop]; omega)]
  · rw [Nat.min_eq_right (by omega), List.drop_length, List.drop_of_length_le (by omega)]
    simp
theorem cutI_nn (os : List Int) {i j : Int} (hi : 0 ≤ i) (hij : i ≤ j) (hj : j ≤ (os.length : Int)) : cutD (os.map D.int) (some i) (some j) = ((os.drop i.toNat).take (j - i).toNat).map D.int := by
  rw [cutD_nn _ hi hij (by rw [List.length_map]; exact hj), ← List.map_drop, ← List.map_take]
theorem cutI_to (os : List Int) {j : Int} (hj : 0 ≤ j) : cutD (os.map D.int) none (some j) = (os.take j.toNat).map D.int := by
  rw [cutD_to _ hj, ← List.map_take]
theorem cutI_from (os : List Int) {j : Int} (hj : 0 ≤ j) : cutD (os.map D.int) (some j) none = (os.drop j.toNat).map D.int := by
  rw [cutD_from _ hj, ← List.map_drop]
theorem at_of' {α : Type} {xs : List α} {z : Int} {j : Nat} {v : α} (e : z = (j : Int)) (h : xs[j]? = some v) : atI xs z = some v := by
  rw [e]
  exact atI_nat h
/-- all mutable objects of M stand in M' as they were -/
def Inc (M M' : MM) : Prop := ∀ a o, M a = some o → M' a = some o
theorem Inc.refl (M : MM) : Inc M M := fun _ _ h => h
theorem Inc.trans {M M1 M2 : MM} (h : Inc M M1) (h' : Inc M1 M2) : Inc M M2 := fun a o e => h' a o (h a o e)
theorem Inc.free {M M1 : MM} (h : Inc M M1) {b : Addr} (e : M1 b = none) : M b = none := by
  cases q : M b with
  | none => rfl
  | some o => rw [h b o q] at e; cases e
theorem Inc.upd {M M1 : MM} (h : Inc M M1) {b : Addr} {o : MO} (e : M b = none) : Inc M (updM M1 b o) := fun a u q => updM_get (mm_ne q e) (h a u q)
theorem Inc.del {M M1 : MM} (h : Inc M M1) {b : Addr} (e : M b = none) : Inc M (delM M1 b) := fun a u q => delM_get (mm_ne q e) (h a u q)
theorem at1z {xs : List D} {j : Nat} {d : D} {k : D → Prop} (h : xs[j]? = some d) (hk : k d) : At1 xs (0 + (j : Int)) k := ⟨d, at_of' (Int.zero_add _) h, hk⟩
theorem at1n {xs : List D} {j : Nat} {d : D} {k : D → Prop} (h : xs[j]? = some d) (hk : k d) : At1 xs (j : Int) k := ⟨d, at_of' rfl h, hk⟩
theorem at1o {xs : List D} (j : Nat) {i : Int} {d : D} {k : D → Prop} (e : i = (j : Int)) (h : xs[j]? = some d) (hk : k d) : At1 xs i k := ⟨d, at_of' e h, hk⟩
/-! ### a state told with less -/
def WkS : List (Option D) → List (Option D) → Prop
  | [], [] => True
  | _ :: ρ, none :: ρ' => WkS ρ ρ'
  | x :: ρ, some d :: ρ' => x = some d ∧ WkS ρ ρ'
  | _, _ => False
theorem RpS.weak {K : PySem.W.Frag} {S : Hp} : ∀ {ρ ρ' : List (Option D)} {σ : St}, WkS ρ ρ' → RpS K S ρ σ → RpS K S ρ' σ
  | [], [], σ, _, h => h
  | [], _ :: _, σ, w, h => by cases w
  | _ :: _, [], σ, w, h => by cases w
  | none :: ρ, none :: ρ', σ, w, h => by
    obtain ⟨x, r, rfl, h1⟩ := h
    exact ⟨x, r, rfl, RpS.weak (show WkS ρ ρ' from w) h1⟩
  | some d :: ρ, none :: ρ', σ, w, h => by
    obtain ⟨x, r, rfl, _, h1⟩ := h
    exact ⟨_, r, rfl, RpS.weak (show WkS ρ ρ' from w) h1⟩
  | none :: ρ, some d :: ρ', σ, w, h => by cases w.1
  | some d' :: ρ, some d :: ρ', σ, w, h => by
    obtain ⟨e, w⟩ := w
    cases e
    obtain ⟨x, r, rfl, h0, h1⟩ := h
    exact ⟨x, r, rfl, h0, RpS.weak w h1⟩
def Weak (s s' : Sd) : Prop := WkS s.ρ s'.ρ ∧ Inc s'.M s.M
theorem es_weak {K : PySem.W.Frag} {s : Sd} {P : Pd} {ts : TS} (h : Es K ts s { P with nx := fun s' => ∃ s3, Weak s' s3 ∧ P.nx s3, ct := fun s' => ∃ s3, Weak s' s3 ∧ P.ct s3 }) : Es K ts s P := fun S H σ N A r l =>
  h S H σ N A r ⟨fun s' S' H' σ' ⟨s3, w, q⟩ e A' r' => l.nx s3 S' H' σ' q e (A'.less w.2) (r'.weak w.1), l.rt, l.bk, fun s' S' H' σ' ⟨s3, w, q⟩ e A' r' => l.ct s3 S' H' σ' q e (A'.less w.2) (r'.weak w.1)⟩
/-- the state ahead is told with less -/
theorem es_less {K : PySem.W.Frag} {s s' : Sd} {P : Pd} {ts : TS} (w : Weak s s') (h : Es K ts s' P) : Es K ts s P := fun S H σ N A r l => h S H σ N (A.less w.2) (r.weak w.1) l
/-- a cut, told with less -/
theorem es_cutW {K : PySem.W.Frag} {s : Sd} {P : Pd} {ts tr : TS} (I : Sd → Prop) (h1 : Es K ts s { P with nx := fun s' => ∃ s3, Weak s' s3 ∧ I s3 }) (h2 : ∀ s', I s' → Es K tr s' P) : Es K (tSeq ts tr) s P := es_cut _ h1 fun _ ⟨s3, w, i⟩ => es_less w (h2 s3 i)
/-! ### the law's call -/
theorem rpl_ints {K : PySem.W.Frag} {S : Hp} : ∀ ns : List Int, RpL K S (ns.map D.int) (ns.map V.int)
  | [] => RpL.nil
  | n :: ns => RpL.cons Rp.int (rpl_ints ns)
theorem law_sp {K : PySem.W.Frag} {H : Hp} {T : DSp} {a : Addr} {ns : List Int} {E : XK} (hs : SqL K H a (ns.map V.int)) (hT : ∀ (R : D → MM → Prop), (∀ M', R (.bl true) M') → T [.frz (ns.map .int)] (fun _ => none) R) : spOf K T [.ref a] H (fun v _ => v = .bl true) E :=
  ⟨H, fun _ => none, [.frz (ns.map .int)], fun d _ => d = .bl true, ⟨Ex.refl H, fun _ _ h => (nomatch h)⟩, RpL.cons (Rp.frz hs (rpl_ints ns)) RpL.nil, hT _ fun _ => rfl, fun d M' v S' H' hd _ _ r => by
    subst hd
    exact r.bl_of⟩
end DL


namespace K00
/-! the mathematics of checks and frames, over lists of ints -/
abbrev PR : Int := 4294967291
def stp (t o : Int) : Int := (t * 257 + o + 1) % PR
def chkF (t : Int) (os : List Int) : Int := os.foldl stp t
abbrev chk (os : List Int) : Int := chkF 1 os
def pw : Nat → Int
  | 0 => 1
  | n + 1 => pw n * 257 % PR
theorem emod_dvd (a : Int) : PR ∣ a % PR - a := by
  have := Int.emod_add_mul_ediv a PR
  refine ⟨-(a / PR), ?_⟩
  rw [Int.mul_neg]
  omega
theorem stp_dvd (t o : Int) : PR ∣ stp t o - (t * 257 + o + 1) := emod_dvd _
theorem stp_range (t o : Int) : 0 ≤ stp t o ∧ stp t o < PR := ⟨Int.emod_nonneg _ (by decide), Int.emod_lt_of_pos _ (by decide)⟩
theorem chkF_range : ∀ (os : List Int) (t : Int), 0 ≤ t ∧ t < PR → 0 ≤ chkF t os ∧ chkF t os < PR
  | [], t, h => h
  | o :: os, t, h => chkF_range os (stp t o) (stp_range t o)
theorem chk_range (os : List Int) : 0 ≤ chk os ∧ chk os < PR := chkF_range os 1 (by decide)
theorem dvd_lin {a b c : Int} (h1 : PR ∣ a) (h2 : PR ∣ b) (x : Int) (h : c = a + b * x) : PR ∣ c := by
  rw [h]
  exact Int.dvd_add h1 (Int.dvd_trans h2 (Int.dvd_mul_right b x))
theorem chkF_diff : ∀ (os : List Int) (t u : Int), PR ∣ chkF t os - chkF u os - (t - u) * 257 ^ os.length
  | [], t, u => ⟨0, by simp [chkF]⟩
  | o :: os, t, u => by
    have ih := chkF_diff os (stp t o) (stp u o)
    have h1 := stp_dvd t o
    have h2 := stp_dvd u o
    have h3 : PR ∣ (stp t o - (t * 257 + o + 1)) - (stp u o - (u * 257 + o + 1)) := Int.dvd_sub h1 h2
    refine dvd_lin ih h3 (257 ^ os.length) ?_
    show chkF (stp t o) os - chkF (stp u o) os - (t - u) * 257 ^ (os.length + 1) = _
    rw [Int.pow_succ]
    generalize (257 : Int) ^ os.length = p
    simp only [Int.sub_mul, Int.mul_sub, Int.add_mul, Int.mul_add]
    have : t * (p * 257) = t * 257 * p := by rw [Int.mul_comm p 257, Int.mul_assoc]
    have : u * (p * 257) = u * 257 * p := by rw [Int.mul_comm p 257, Int.mul_assoc]
    omega
theorem chkF_append (t : Int) (a b : List Int) : chkF t (a ++ b) = chkF (chkF t a) b := List.foldl_append
/-- one octet changed -/
theorem chk_one (a b : List Int) (x y : Int) : PR ∣ chk (a ++ y :: b) - chk (a ++ x :: b) - (y - x) * 257 ^ b.length := by
  rw [chk, chk, chkF_append, chkF_append]
  generalize chkF 1 a = t
  have ih := chkF_diff b (stp t y) (stp t x)
  have h3 : PR ∣ (stp t y - (t * 257 + y + 1)) - (stp t x - (t * 257 + x + 1)) := Int.dvd_sub (stp_dvd t y) (stp_dvd t x)
  refine dvd_lin ih h3 (257 ^ b.length) ?_
  show chkF (stp t y) b - chkF (stp t x) b - (y - x) * 257 ^ b.length = _
  generalize (257 : Int) ^ b.length = p
  simp only [Int.sub_mul, Int.mul_sub, Int.add_mul, Int.mul_add]
  omega
/-- two neighbours exchanged -/
theorem chk_two (a b : List Int) (x y : Int) : PR ∣ chk (a ++ y :: x :: b) - chk (a ++ x :: y :: b) - 256 * (y - x) * 257 ^ b.length := by
  rw [chk, chk, chkF_append, chkF_append]
  generalize chkF 1 a = t
  have ih := chkF_diff b (stp (stp t y) x) (stp (stp t x) y)
  have g : ∀ u v : Int, PR ∣ stp (stp t u) v - ((t * 257 + u + 1) * 257 + v + 1) := fun u v => by
    refine dvd_lin (stp_dvd (stp t u) v) (stp_dvd t u) 257 ?_
    simp only [Int.sub_mul, Int.add_mul]
    omega
  have h3 := Int.dvd_sub (g y x) (g x y)
  refine dvd_lin ih h3 (257 ^ b.length) ?_
  show chkF (stp (stp t y) x) b - chkF (stp (stp t x) y) b - 256 * (y - x) * 257 ^ b.length = _
  generalize (257 : Int) ^ b.length = p
  have e : (stp (stp t y) x - ((t * 257 + y + 1) * 257 + x + 1) - (stp (stp t x) y - ((t * 257 + x + 1) * 257 + y + 1))) = stp (stp t y) x - stp (stp t x) y - 256 * (y - x) := by omega
  rw [e]
  simp only [Int.sub_mul, Int.mul_sub]
  omega
theorem pw_range : ∀ n, 0 ≤ pw n ∧ pw n < PR
  | 0 => by decide
  | n + 1 => ⟨Int.emod_nonneg _ (by decide), Int.emod_lt_of_pos _ (by decide)⟩
theorem pw_dvd : ∀ n, PR ∣ pw n - 257 ^ n
  | 0 => by decide
  | n + 1 => by
    refine dvd_lin (emod_dvd (pw n * 257)) (pw_dvd n) 257 ?_
    rw [Int.pow_succ]
    simp only [Int.sub_mul]
    show pw n * 257 % PR - _ = _
    omega
theorem eq_of_dvd {a b : Int} (ha : 0 ≤ a ∧ a < PR) (h : PR ∣ a - b) : a = b % PR := by
  have h1 : (a - b) % PR = 0 := Int.emod_eq_zero_of_dvd h
  have h2 := Int.emod_add_mul_ediv (a - b) PR
  have h3 := Int.emod_add_mul_ediv b PR
  have h4 := Int.emod_nonneg b (show PR ≠ 0 by decide)
  have h5 := Int.emod_lt_of_pos b (show (0 : Int) < PR by decide)
  simp only [PR] at *
  omega
theorem check_one (a b : List Int) (x y : Int) : chk (a ++ y :: b) = (chk (a ++ x :: b) + (y - x) * pw b.length) % PR := by
  refine eq_of_dvd (chk_range _) (dvd_lin (chk_one a b x y) (pw_dvd b.length) (-(y - x)) ?_)
  generalize (257 : Int) ^ b.length = p
  simp only [Int.sub_mul, Int.mul_sub, Int.mul_neg, Int.neg_mul]
  rw [Int.mul_comm (pw b.length) y, Int.mul_comm (pw b.length) x, Int.mul_comm p y, Int.mul_comm p x]
  omega
theorem check_two (a b : List Int) (x y : Int) : chk (a ++ y :: x :: b) = (chk (a ++ x :: y :: b) + 256 * (y - x) * pw b.length) % PR := by
  refine eq_of_dvd (chk_range _) (dvd_lin (chk_two a b x y) (pw_dvd b.length) (-(256 * (y - x))) ?_)
  generalize (257 : Int) ^ b.length = p
  generalize 256 * (y - x) = z
  simp only [Int.sub_mul, Int.mul_sub, Int.mul_neg, Int.neg_mul]
  rw [Int.mul_comm (pw b.length) z, Int.mul_comm p z]
  omega
theorem coprime {z : Int} (h : PR ∣ z * 257) : PR ∣ z := by
  obtain ⟨k, hk⟩ := h
  refine ⟨3225403452 * k - 193 * z, ?_⟩
  have e : PR * (3225403452 * k - 193 * z) = 3225403452 * (PR * k) - PR * 193 * z := by
    rw [Int.mul_sub, ← Int.mul_assoc, ← Int.mul_assoc, ← Int.mul_assoc, Int.mul_comm PR 3225403452]
  rw [e, ← hk]
  simp only [PR]
  omega
theorem coprime_pow {z : Int} : ∀ n : Nat, PR ∣ z * 257 ^ n → PR ∣ z
  | 0, h => by simpa using h
  | n + 1, h => by
    rw [Int.pow_succ, ← Int.mul_assoc] at h
    exact coprime_pow n (coprime h)
theorem check_ne (a b : List Int) (x y : Int) (hx : 0 ≤ x ∧ x < 256) (hy : 0 ≤ y ∧ y < 256) (h : y ≠ x) : chk (a ++ y :: b) ≠ chk (a ++ x :: b) := by
  intro e
  have d := chk_one a b x y
  rw [e, Int.sub_self, Int.zero_sub, ← Int.neg_mul] at d
  obtain ⟨k, hk⟩ := coprime_pow _ d
  simp only [PR] at hk
  omega
/-! octets -/
def lowI (n : Int) (k : Nat) : List Int := (List.range k).map fun i => n / 256 ^ i % 256
def numOf (os : List Int) : Int := os.foldr (fun o t => t * 256 + o) 0
def Oct (os : List Int) : Prop := ∀ o ∈ os, 0 ≤ o ∧ o < 256
theorem lowI_len (n : Int) (k : Nat) : (lowI n k).length = k := by
  unfold lowI
  rw [List.length_map, List.length_range]
theorem lowI_oct (n : Int) (k : Nat) : Oct (lowI n k) := fun o h => by
  unfold lowI at h
  obtain ⟨i, _, rfl⟩ := List.mem_map.mp h
  exact ⟨Int.emod_nonneg _ (by decide), Int.emod_lt_of_pos _ (by decide)⟩
theorem lowI_3 (n : Int) : lowI n 3 = [n % 256, n / 256 % 256, n / 65536 % 256] := by
  have e : lowI n 3 = [n / 256 ^ 0 % 256, n / 256 ^ 1 % 256, n / 256 ^ 2 % 256] := rfl
  rw [e]
  simp
theorem lowI_4 (n : Int) : lowI n 4 = [n % 256, n / 256 % 256, n / 65536 % 256, n / 16777216 % 256] := by
  have e : lowI n 4 = [n / 256 ^ 0 % 256, n / 256 ^ 1 % 256, n / 256 ^ 2 % 256, n / 256 ^ 3 % 256] := rfl
  rw [e]
  simp
theorem num_low3 {n : Int} (h : 0 ≤ n ∧ n < 16777216) : numOf (lowI n 3) = n := by
  rw [lowI_3]
  simp only [numOf, List.foldr]
  omega
theorem num_low4 {n : Int} (h : 0 ≤ n ∧ n < 4294967296) : numOf (lowI n 4) = n := by
  rw [lowI_4]
  simp only [numOf, List.foldr]
  omega
theorem numOf_nonneg : ∀ {os : List Int}, Oct os → 0 ≤ numOf os
  | [], _ => by simp [numOf]
  | o :: os, h => by
    have h1 := numOf_nonneg (os := os) fun x hx => h x (List.mem_cons_of_mem _ hx)
    have h2 := h o List.mem_cons_self
    show 0 ≤ numOf os * 256 + o
    omega
def frame (p : List Int) : List Int := lowI p.length 3 ++ lowI (chk (lowI p.length 3 ++ p)) 4 ++ p
theorem frame_len (p : List Int) : (frame p).length = p.length + 7 := by
  unfold frame
  rw [List.length_append, List.length_append, lowI_len, lowI_len]
  omega
theorem frame_oct {p : List Int} (h : Oct p) : Oct (frame p) := fun o ho => by
  unfold frame at ho
  rcases List.mem_append.mp ho with ho | ho
  · rcases List.mem_append.mp ho with ho | ho
    · exact lowI_oct _ _ o ho
    · exact lowI_oct _ _ o ho
  · exact h o ho
def pinF : Nat → List Int → List (List Int) × Nat
  | 0, _ => ([], 0)
  | f + 1, os =>
    if 7 ≤ os.length then
      if 7 + (numOf (os.take 3)).toNat ≤ os.length ∧ numOf ((os.drop 3).take 4) = chk (os.take 3 ++ (os.drop 7).take (numOf (os.take 3)).toNat) then
        ((os.drop 7).take (numOf (os.take 3)).toNat :: (pinF f (os.drop (7 + (numOf (os.take 3)).toNat))).1, 7 + (numOf (os.take 3)).toNat + (pinF f (os.drop (7 + (numOf (os.take 3)).toNat))).2)
      else ([], 0)
    else ([], 0)
/-- what begins with a head, a check and a payload of the told length -/
theorem head_cut (p c rest : List Int) (hp : p.length < 16777216) (hc : c.length = 4) :
    ((lowI p.length 3 ++ c ++ p ++ rest).take 3 = lowI p.length 3) ∧ ((lowI p.length 3 ++ c ++ p ++ rest).drop 3).take 4 = c ∧ (numOf (lowI p.length 3)).toNat = p.length ∧ ((lowI p.length 3 ++ c ++ p ++ rest).drop 7).take p.length = p ∧
    (lowI p.length 3 ++ c ++ p ++ rest).drop (7 + p.length) = rest ∧ (lowI p.length 3 ++ c ++ p ++ rest).length = 7 + p.length + rest.length := by
  have l3 := lowI_len p.length 3
  generalize hg : lowI p.length 3 = g at *
  have hn : (numOf g).toNat = p.length := by
    rw [← hg, num_low3 ⟨by omega, by omega⟩]
    omega
  refine ⟨?_, ?_, hn, ?_, ?_, ?_⟩
  · rw [List.append_assoc, List.append_assoc, List.take_left' l3]
  · rw [List.append_assoc, List.append_assoc, List.drop_left' l3, List.take_left' hc]
  · rw [List.append_assoc, List.drop_left' (by rw [List.length_append, l3, hc]), List.take_left' rfl]
  · rw [List.drop_left' (by rw [List.length_append, List.length_append, l3, hc])]
  · rw [List.length_append, List.length_append, List.length_append, l3, hc]
theorem pin_frame (f : Nat) (p rest : List Int) (hp : p.length < 16777216) : pinF (f + 1) (frame p ++ rest) = (p :: (pinF f rest).1, p.length + 7 + (pinF f rest).2) := by
  unfold frame
  obtain ⟨h1, h2, h3, h4, h5, h6⟩ := head_cut p (lowI (chk (lowI p.length 3 ++ p)) 4) rest hp (lowI_len _ _)
  have hr := chk_range (lowI p.length 3 ++ p)
  simp only [PR] at hr
  rw [pinF, if_pos (by omega), h1, h3, h4, if_pos ⟨by omega, by rw [h2, num_low4 ⟨hr.1, by omega⟩]⟩, h5, Nat.add_comm 7]
theorem pin_bad (f : Nat) (p q rest : List Int) (hp : p.length < 16777216) (hq : q.length = p.length) (hne : chk (lowI p.length 3 ++ q) ≠ chk (lowI p.length 3 ++ p)) : pinF f (lowI p.length 3 ++ lowI (chk (lowI p.length 3 ++ p)) 4 ++ q ++ rest) = ([], 0) := by
  cases f with
  | zero => rfl
  | succ f =>
    have hq2 : lowI (p.length : Int) 3 = lowI (q.length : Int) 3 := by rw [hq]
    rw [hq2]
    obtain ⟨h1, h2, h3, h4, h5, h6⟩ := head_cut q (lowI (chk (lowI q.length 3 ++ p)) 4) rest (by omega) (lowI_len _ _)
    have hr := chk_range (lowI q.length 3 ++ p)
    simp only [PR] at hr
    rw [pinF, if_pos (by omega), h1, h3, h4, if_neg]
    rintro ⟨_, h⟩
    rw [h2, num_low4 ⟨hr.1, by omega⟩] at h
    rw [hq2] at hne
    exact hne h.symm
def frames (ps : List (List Int)) : List Int := (ps.map frame).flatten
theorem pin_frames : ∀ (ps : List (List Int)) (f : Nat) (rest : List Int), (∀ p ∈ ps, p.length < 16777216) → pinF (f + ps.length) (frames ps ++ rest) = (ps ++ (pinF f rest).1, (frames ps).length + (pinF f rest).2)
  | [], f, rest, _ => by simp [frames]
  | p :: ps, f, rest, h => by
    have e : frames (p :: ps) = frame p ++ frames ps := by simp [frames]
    have ih := pin_frames ps f rest fun q hq => h q (List.mem_cons_of_mem _ hq)
    rw [e, List.append_assoc, show f + (p :: ps).length = (f + ps.length) + 1 by simp; omega, pin_frame _ _ _ (h p List.mem_cons_self), ih]
    simp [frame_len]
    omega
theorem pinF_more : ∀ (f : Nat) (os : List Int) (g : Nat), os.length ≤ f → f ≤ g → pinF g os = pinF f os
  | 0, os, g, h, _ => by
    have : os = [] := List.length_eq_zero_iff.mp (by omega)
    subst this
    cases g <;> simp [pinF]
  | f + 1, os, 0, h, hg => by omega
  | f + 1, os, g + 1, h, hg => by
    rw [pinF, pinF]
    by_cases h7 : 7 ≤ os.length
    · rw [if_pos h7, if_pos h7]
      rw [pinF_more f (os.drop (7 + (numOf (os.take 3)).toNat)) g (by rw [List.length_drop]; omega) (by omega)]
    · rw [if_neg h7, if_neg h7]
abbrev pin (os : List Int) : List (List Int) × Nat := pinF os.length os
theorem pin_eq (os : List Int) : pin os = if 7 ≤ os.length then
      if 7 + (numOf (os.take 3)).toNat ≤ os.length ∧ numOf ((os.drop 3).take 4) = chk (os.take 3 ++ (os.drop 7).take (numOf (os.take 3)).toNat) then
        ((os.drop 7).take (numOf (os.take 3)).toNat :: (pin (os.drop (7 + (numOf (os.take 3)).toNat))).1, 7 + (numOf (os.take 3)).toNat + (pin (os.drop (7 + (numOf (os.take 3)).toNat))).2)
      else ([], 0)
    else ([], 0) := by
  by_cases h7 : 7 ≤ os.length
  · have e : pinF os.length os = pinF ((os.length - 1) + 1) os := congrArg (fun n => pinF n os) (by omega)
    rw [pin, e, pinF, if_pos h7, if_pos h7]
    rw [pinF_more (os.drop (7 + (numOf (os.take 3)).toNat)).length (os.drop (7 + (numOf (os.take 3)).toNat)) (os.length - 1) (Nat.le_refl _) (by rw [List.length_drop]; omega)]
  · rw [if_neg h7, pin]
    cases e : os.length with
    | zero => rfl
    | succ n => rw [pinF, if_neg h7]
theorem frames_len_ge : ∀ ps : List (List Int), ps.length ≤ (frames ps).length
  | [] => by simp
  | p :: ps => by
    have e : frames (p :: ps) = frame p ++ frames ps := by simp [frames]
    have := frames_len_ge ps
    rw [e, List.length_append, frame_len]
    simp
    omega
theorem pin_all (ps : List (List Int)) (h : ∀ p ∈ ps, p.length < 16777216) : pin (frames ps) = (ps, (frames ps).length) := by
  have e := pin_frames ps ((frames ps).length - ps.length) [] h
  have hl := frames_len_ge ps
  rw [Nat.sub_add_cancel hl, List.append_nil] at e
  rw [pin, e]
  cases (frames ps).length - ps.length <;> simp [pinF]
theorem pin_bent (ps : List (List Int)) (h : ∀ p ∈ ps, p.length < 16777216) (p q rest : List Int) (hp : p.length < 16777216) (hq : q.length = p.length) (hne : chk (lowI p.length 3 ++ q) ≠ chk (lowI p.length 3 ++ p)) :
    pin (frames ps ++ (lowI p.length 3 ++ lowI (chk (lowI p.length 3 ++ p)) 4 ++ q ++ rest)) = (ps, (frames ps).length) := by
  generalize hb : lowI p.length 3 ++ lowI (chk (lowI p.length 3 ++ p)) 4 ++ q ++ rest = bad
  have hl := frames_len_ge ps
  have e := pin_frames ps ((frames ps ++ bad).length - ps.length) bad h
  rw [Nat.sub_add_cancel (by rw [List.length_append]; omega)] at e
  rw [pin, e, ← hb, pin_bad _ _ _ _ hp hq hne]
  simp
theorem frames_append (a b : List (List Int)) : frames (a ++ b) = frames a ++ frames b := by
  unfold frames
  rw [List.map_append, List.flatten_append]
theorem frames_one (p : List Int) : frames [p] = frame p := by simp [frames]
theorem frames_split (ps : List (List Int)) (k : Nat) (hk : k < ps.length) : frames ps = frames (ps.take k) ++ (frame ps[k] ++ frames (ps.drop (k + 1))) := by
  have e : ps = ps.take k ++ ([ps[k]] ++ ps.drop (k + 1)) := by
    rw [List.singleton_append, ← List.drop_eq_getElem_cons hk, List.take_append_drop]
  have e2 := congrArg frames e
  rw [frames_append, frames_append, frames_one] at e2
  exact e2
theorem frames_oct : ∀ {ps : List (List Int)}, (∀ p ∈ ps, Oct p) → Oct (frames ps)
  | [], _ => fun o h => by simp [frames] at h
  | p :: ps, h => fun o ho => by
    have e : frames (p :: ps) = frame p ++ frames ps := by simp [frames]
    rw [e] at ho
    rcases List.mem_append.mp ho with ho | ho
    · exact frame_oct (h p List.mem_cons_self) o ho
    · exact frames_oct (fun q hq => h q (List.mem_cons_of_mem _ hq)) o ho
theorem frames_len_le : ∀ {ps : List (List Int)} {m : Nat}, (∀ p ∈ ps, p.length ≤ m) → (frames ps).length ≤ ps.length * (m + 7)
  | [], m, _ => by simp [frames]
  | p :: ps, m, h => by
    have e : frames (p :: ps) = frame p ++ frames ps := by simp [frames]
    have h1 := h p List.mem_cons_self
    have h2 := frames_len_le (ps := ps) (m := m) fun q hq => h q (List.mem_cons_of_mem _ hq)
    rw [e, List.length_append, frame_len, List.length_cons, Nat.succ_mul]
    omega
/-- the row with one octet of the k-th payload changed -/
theorem bent_eq (ps : List (List Int)) (k t : Nat) (v : Int) (hk : k < ps.length) (ht : t < ps[k].length) :
    (frames ps).take ((frames (ps.take k)).length + 7 + t) ++ [v] ++ (frames ps).drop ((frames (ps.take k)).length + 7 + t + 1) =
      frames (ps.take k) ++ (lowI ps[k].length 3 ++ lowI (chk (lowI ps[k].length 3 ++ ps[k])) 4 ++ (ps[k].take t ++ v :: ps[k].drop (t + 1)) ++ frames (ps.drop (k + 1))) := by
  have hs := frames_split ps k hk
  generalize frames (ps.take k) = A at *
  generalize frames (ps.drop (k + 1)) = Z at *
  generalize ps[k] = p at *
  rw [hs]
  unfold frame
  have l3 : (lowI (p.length : Int) 3).length = 3 := lowI_len _ _
  have l4 : (lowI (chk (lowI (p.length : Int) 3 ++ p)) 4).length = 4 := lowI_len _ _
  generalize lowI (chk (lowI (p.length : Int) 3 ++ p)) 4 = C at *
  generalize lowI (p.length : Int) 3 = B at *
  have e1 : (A ++ (B ++ C ++ p ++ Z)).take (A.length + 7 + t) = A ++ (B ++ C ++ p.take t) := by
    rw [Nat.add_assoc, List.take_length_add_append, List.append_assoc, List.append_assoc, show 7 + t = B.length + (4 + t) by omega, List.take_length_add_append, show 4 + t = C.length + t by omega, List.append_assoc, List.take_length_add_append, List.take_append_of_le_length (by omega)]
  have e2 : (A ++ (B ++ C ++ p ++ Z)).drop (A.length + 7 + t + 1) = p.drop (t + 1) ++ Z := by
    rw [show A.length + 7 + t + 1 = A.length + (B.length + (C.length + (t + 1))) by omega, ← List.drop_drop, List.drop_left, ← List.drop_drop, List.append_assoc, List.append_assoc, List.drop_left, ← List.drop_drop, List.drop_left, List.drop_append_of_le_length (by omega)]
  rw [e1, e2]
  simp
theorem frames_at (ps : List (List Int)) (k t : Nat) (hk : k < ps.length) (ht : t < ps[k].length) : (frames ps)[(frames (ps.take k)).length + 7 + t]? = some ps[k][t] := by
  rw [frames_split ps k hk, List.getElem?_append_right (by omega), List.getElem?_append_left (by rw [frame_len]; omega)]
  unfold frame
  rw [List.getElem?_append_right (by rw [List.length_append, lowI_len, lowI_len]; omega), List.length_append, lowI_len, lowI_len, List.getElem?_eq_getElem (by omega)]
  congr 1
  congr 1
  omega
/-- the bent row is read up to the bent frame -/
theorem bent_pin (ps : List (List Int)) (k t : Nat) (v : Int) (hk : k < ps.length) (ht : t < ps[k].length) (hz : ∀ p ∈ ps, p.length < 16777216) (ho : ∀ p ∈ ps, Oct p) (hv : 0 ≤ v ∧ v < 256) (hne : v ≠ ps[k][t]) :
    pin ((frames ps).take ((frames (ps.take k)).length + 7 + t) ++ [v] ++ (frames ps).drop ((frames (ps.take k)).length + 7 + t + 1)) = (ps.take k, (frames (ps.take k)).length) := by
  rw [bent_eq ps k t v hk ht]
  have hp : ps[k] = ps[k].take t ++ ps[k][t] :: ps[k].drop (t + 1) := by rw [← List.drop_eq_getElem_cons ht, List.take_append_drop]
  refine pin_bent _ (fun p h => hz p (List.mem_of_mem_take h)) _ _ _ (hz _ (List.getElem_mem hk)) (by simp; omega) ?_
  have := check_ne (lowI ps[k].length 3 ++ ps[k].take t) (ps[k].drop (t + 1)) ps[k][t] v (ho _ (List.getElem_mem hk) _ (List.getElem_mem ht)) hv hne
  rw [List.append_assoc, List.append_assoc, ← hp] at this
  exact this
end K00


section
open PySem L2 Evl DL
local macro_rules | `(tactic| walk_at "nrm") => `(tactic| dsimp only [startD, List.map_cons, List.map_nil, List.length_cons, List.length_nil, List.replicate, List.set_cons_zero, List.set_cons_succ, List.cons_append, List.nil_append, Nat.reduceAdd, Nat.reduceSub, wipeD])
local macro_rules | `(tactic| walk_at "mm") => `(tactic| first | assumption | exact updM_same | (refine updM_get ?_ ?_ <;> first | assumption | (apply Ne.symm; assumption) | walk_at "mm"))
local macro_rules | `(tactic| walk_at "side") => `(tactic| first | omega | (simp only [List.length_cons, List.length_nil, List.length_append, List.length_map, sizeLine_eq]; omega) | exact Or.inr ⟨by omega, by omega⟩ | exact Or.inl ⟨by omega, by omega⟩ | exact And.intro (by omega) (by omega) | exact And.intro (by omega) (And.intro (by omega) (by decide)))
local macro_rules | `(tactic| walk_at "d0") => `(tactic| first
  | ((with_reducible first | show Pd.nx _ _ | show Pd.bk _ _ | show Pd.ct _ _ | show Pd.rt _ _ _); walk_at "nrm")
  | (with_reducible refine' es_set ?_) | (with_reducible refine' es_drop ?_) | (with_reducible refine' es_ret ?_) | (with_reducible refine' w_if ?_) | (with_reducible refine' es_next ?_) | (with_reducible refine' es_break ?_) | (with_reducible refine' es_cont ?_) | (with_reducible refine' es_retN ?_) | (with_reducible refine' es_asg ?_) | (with_reducible refine' es_for ?_) | ((with_reducible refine' w_aug ?hh ?_); (case hh => exact rfl)))
local macro_rules | `(tactic| walk_at "dx") => `(tactic| first
  | ((with_reducible refine' ed_var ?hh ?_); (case hh => exact rfl)) | ((with_reducible refine' w_varF ?hh ?hm ?_); (case hh => exact rfl); (case hm => walk_at "mm"))
  | (with_reducible refine' w_int ?_) | (with_reducible refine' w_str ?_) | (with_reducible refine' w_bl ?_) | (with_reducible refine' w_non ?_) | (with_reducible refine' w_add ?_) | (with_reducible refine' w_sub ?_) | (with_reducible refine' w_mul ?_) | (with_reducible refine' w_mulW ?_) | (with_reducible refine' w_mod ?_) | (with_reducible refine' w_fdiv ?_) | (with_reducible refine' w_fdivW ?_) | (with_reducible refine' w_pow ?_) | (with_reducible refine' w_neg ?_) | (with_reducible refine' w_lt ?_) | (with_reducible refine' w_le ?_) | (with_reducible refine' w_gt ?_) | (with_reducible refine' w_ge ?_) | (with_reducible refine' w_eq ?_) | (with_reducible refine' w_ne ?_) | (with_reducible refine' w_isN ?_) | (with_reducible refine' w_notN ?_) | (with_reducible refine' w_andV ?_) | (with_reducible refine' w_orV ?_) | (with_reducible refine' w_notV ?_) | (with_reducible refine' w_ife ?_) | (with_reducible refine' w_lst ?_) | (with_reducible refine' w_lstM ?_) | (with_reducible refine' w_tup ?_) | (with_reducible refine' w_ixL ?_) | (with_reducible refine' w_ixT ?_) | (with_reducible refine' w_slL ?_) | (with_reducible refine' w_cat ?_) | (with_reducible refine' w_len ?_) | (with_reducible refine' w_list ?_) | (with_reducible refine' w_int1 ?_) | (with_reducible refine' w_app ?_) | (with_reducible refine' w_ext ?_) | (with_reducible refine' w_pop ?_) | (with_reducible refine' w_call ?_) | (with_reducible refine' w_eqD ?_) | (with_reducible refine' w_neD ?_))
local macro_rules | `(tactic| walk_at "dt") => `(tactic| first
  | (with_reducible refine' w_test ?_) | (with_reducible refine' w_B ?_) | (with_reducible refine' w_and ?_) | (with_reducible refine' w_or ?_) | (with_reducible refine' w_not ?_) | (with_reducible refine' et_yes ?_) | (with_reducible refine' ea_nil ?_) | (with_reducible refine' ea_cons ?_) | (with_reducible refine' eo_none ?_) | (with_reducible refine' w_part ?_) | (with_reducible refine' eg_name ?_) | (with_reducible refine' w_setM ?_) | (with_reducible refine' w_tupT ?_) | (with_reducible refine' egs_nil ?_) | (with_reducible refine' egs_cons ?_) | (with_reducible refine' w_iL ?_) | (with_reducible refine' w_iT ?_) | (with_reducible refine' w_iR1 ?_) | (with_reducible refine' w_iR2 ?_) | (with_reducible refine' w_iRev ?_))
local macro_rules | `(tactic| walk_at "dw") => `(tactic| first
  | (with_reducible refine' i1 ?_) | (with_reducible refine' i2 ?_) | (with_reducible refine' s1 ?_) | (with_reducible refine' s2 ?_) | (with_reducible refine' b1 ?_) | (with_reducible refine' l1_lst ?_) | (with_reducible refine' l1_frz ?_) | (with_reducible refine' l1_tup ?_) | (with_reducible refine' ll1_lst ?_) | (with_reducible refine' ll1_frz ?_) | (with_reducible refine' f1_lst ?_) | (with_reducible refine' f1_frz ?_) | (with_reducible refine' t1 ?_) | (with_reducible refine' n1 ?_) | (with_reducible refine' e2_int ?_) | (with_reducible refine' e2_str ?_) | (with_reducible refine' e2_bl ?_) | (with_reducible refine' br_not ?_) | (with_reducible refine' br_true ?_) | (with_reducible refine' br_false ?_)
  | ((with_reducible refine' sc ?hh ?_); (case hh => walk_at "side")) | ((with_reducible refine' l1_adr ?hm ?_); (case hm => walk_at "mm")) | ((with_reducible refine' ll1_adr ?hm ?_); (case hm => walk_at "mm")) | ((with_reducible refine' m1 ?hm ?_); (case hm => walk_at "mm")) | ((with_reducible refine' g1 ?hm ?_); (case hm => walk_at "mm"))
  | ((with_reducible refine' br_pos ?hh ?_); (case hh => omega)) | ((with_reducible refine' br_neg ?hh ?_); (case hh => omega)))
local macro_rules | `(tactic| walk_at "dm") => `(tactic| repeat (first | walk_at "dw" | walk_at "dx" | walk_at "dt" | walk_at "d0"))
local macro_rules | `(tactic| walk_at "dl") => `(tactic| repeat (first | walk_at "dw" | walk_at "dx" | walk_at "dt" | walk_at "d0" | (with_reducible refine' es_seq ?_)))
local macro_rules | `(tactic| walk_at "go") => `(tactic| ((try dsimp only [L2.cxOf, L2.Cx.nox, L2.Cx.wish]); walk_at "dl"))

namespace K00
def top (i : Nat) : Stmt := PySem.Challenge.pw_herefrom_k00_checks_of_frames_tell_one_c.main.body.getD i (.Pass ⟨0, 0, 0, 0⟩)
structure Tx (mg : Str → Option Value) : Prop where
  len : mg "len" = none
  int : mg "int" = none
  list : mg "list" = none
  range : mg "range" = none
  reversed : mg "reversed" = none
  c_PRIME : ∃ u, mg "PRIME" = some u ∧ RelV (.int 4294967291) u
  c_HEAD : ∃ u, mg "HEAD" = some u ∧ RelV (.int 7) u
abbrev dI (os : List Int) : D := .lst (os.map .int)
section
variable {P : Program} {w : World} {K : PySem.W.Frag} {mg : Str → Option Value} {base : Heap}
abbrev s_low_octets : Stmt := top 1
theorem sc_low_octets : FnScope ["number", "count", "found", "_"] ["number", "count"] (defScope s_low_octets) := ⟨rfl, rfl, rfl, by decide +kernel, rfl, by decide +kernel, by decide +kernel⟩
theorem lowI_succ (n : Int) (k : Nat) : lowI n (k + 1) = lowI n k ++ [n / 256 ^ k % 256] := by
  unfold lowI
  rw [List.range_succ, List.map_append]
  rfl
def T_low_octets : DSp := fun ds M R => ∃ (n : Int) (k : Nat), ds = [.int n, .int (k : Int)] ∧ k ≤ 1000 ∧ R (dI (lowI n k)) M
theorem d_low_octets (T : Tx mg) (F : Dl K mg "low_octets" s_low_octets) : Df P w K mg base 1 "low_octets" 2 T_low_octets := by
  refine F.ok sc_low_octets (fun ds M R ⟨n, k, e, _⟩ => by rw [e]; rfl) (fun _ _ _ _ _ _ us hl => match us, hl with | [_, _], _ => rfl) fun f cdv A outer s H E hr => ⟨_, (pss_cons (ps_set (i := 2) sc_low_octets.nd rfl (by first | exact Or.inl rfl | exact Or.inr rfl) (pe_lstM pa_nil))
      (pss_cons (ps_for PassesOwn.never rfl (pi_range1 (by rfl) T.range (pa_cons (pv 1) pa_nil)) (pg_name (i := 3) sc_low_octets.nd rfl (by first | exact Or.inl rfl | exact Or.inr rfl))
      (pss_cons (ps_expr (pe_bm PySem.F.plainAttrs_list PySem.F.slot_list_append PySem.F.type_list_append mt_append (pv 2) (pa_cons (pe_op op_mod (pv 0) pe_int) pa_nil)))
      (pss_one (ps_set (i := 0) sc_low_octets.nd rfl (by first | exact Or.inl rfl | exact Or.inr rfl) (pe_op op_fdiv (pv 0) pe_int)))))
      (pss_one (ps_ret (pvF 2)))))
   , ?_⟩
  rintro ds M R ⟨n, k, rfl, hk, hR⟩
  walk_at "go"
  intro p hp
  walk_at "dl"
  have e0 : ((k : Int)).toNat = k := by omega
  rw [e0]
  refine lp_range (fun i s' => ∃ x : Option D, s' = ⟨[some (.int (n / 256 ^ i)), some (.int (k : Int)), some (.adr p), x], updM M p (.lst ((lowI n i).map .int))⟩) ⟨none, ?_⟩ ?_ ?_
  · simp only [Int.pow_zero, Int.ediv_one]; rfl
  · rintro i _ hi ⟨x, rfl⟩
    walk_at "dl"
    refine sc (by rw [List.length_map, lowI_len, sizeLine_eq]; omega) ?_
    walk_at "dl"
    rw [lowI_succ, updM_updM, Int.pow_succ, ← Int.ediv_ediv_of_nonneg (Int.pow_nonneg (by decide)), List.map_append]
    exact ⟨_, rfl⟩
  · rintro _ ⟨x, rfl⟩
    walk_at "dl"
    try walk_at "nrm"
    rw [delM_updM hp]
    exact hR
abbrev s_number_of : Stmt := top 2
theorem sc_number_of : FnScope ["octets", "total", "octet"] ["octets"] (defScope s_number_of) := ⟨rfl, rfl, rfl, by decide +kernel, rfl, by decide +kernel, by decide +kernel⟩
def T_number_of : DSp := fun ds M R => ∃ os : List Int, ds = [dI os] ∧ R (.int (numOf os)) M
theorem d_number_of (T : Tx mg) (F : Dl K mg "number_of" s_number_of) : Df P w K mg base 1 "number_of" 1 T_number_of := by
  refine F.ok sc_number_of (fun ds M R ⟨n, e, _⟩ => by rw [e]; rfl) (fun _ _ _ _ _ _ us hl => match us, hl with | [_], _ => rfl) fun f cdv A outer s H E hr => ⟨_, (pss_cons (ps_set (i := 1) sc_number_of.nd rfl (by first | exact Or.inl rfl | exact Or.inr rfl) pe_int)
      (pss_cons (ps_for PassesOwn.never rfl (pi_reversed (by rfl) T.reversed (pa_cons (pv 0) pa_nil)) (pg_name (i := 2) sc_number_of.nd rfl (by first | exact Or.inl rfl | exact Or.inr rfl))
      (pss_one (ps_set (i := 1) sc_number_of.nd rfl (by first | exact Or.inl rfl | exact Or.inr rfl) (pe_op op_add (pe_op op_mul (pv 1) pe_int) (pv 2)))))
      (pss_one (ps_ret (pv 1)))))
   , ?_⟩
  rintro ds M R ⟨os, rfl, hR⟩
  walk_at "go"
  refine lp_fold (fun (t : Int) x => ⟨[some (dI os), some (.int t), x], M⟩) (fI fun t o => t * 256 + o) _ 0 none ?_ ?_
  · intro a x d hd N hN
    rw [← List.map_reverse] at hd
    obtain ⟨o, _, rfl⟩ := mem_ints hd
    walk_at "dl"
    exact hN _
  · intro x
    walk_at "dl"
    rw [← List.map_reverse, foldl_fI, List.foldl_reverse]
    exact hR
abbrev s_check_of : Stmt := top 6
theorem sc_check_of : FnScope ["octets", "total", "octet"] ["octets"] (defScope s_check_of) := ⟨rfl, rfl, rfl, by decide +kernel, rfl, by decide +kernel, by decide +kernel⟩
def T_check_of : DSp := fun ds M R => ∃ os : List Int, ds = [dI os] ∧ R (.int (chk os)) M
theorem d_check_of (T : Tx mg) (F : Dl K mg "check_of" s_check_of) : Df P w K mg base 1 "check_of" 1 T_check_of := by
  refine F.ok sc_check_of (fun ds M R ⟨n, e, _⟩ => by rw [e]; rfl) (fun _ _ _ _ _ _ us hl => match us, hl with | [_], _ => rfl) fun f cdv A outer s H E hr => ⟨_, (pss_cons (ps_set (i := 1) sc_check_of.nd rfl (by first | exact Or.inl rfl | exact Or.inr rfl) pe_int)
      (pss_cons (ps_for PassesOwn.never rfl (pi_list (pv 0)) (pg_name (i := 2) sc_check_of.nd rfl (by first | exact Or.inl rfl | exact Or.inr rfl))
      (pss_one (ps_set (i := 1) sc_check_of.nd rfl (by first | exact Or.inl rfl | exact Or.inr rfl) (pe_op op_mod (pe_op op_add (pe_op op_add (pe_op op_mul (pv 1) pe_int) (pv 2)) pe_int) (pe_cst (v := .int 4294967291) (by rfl) T.c_PRIME)))))
      (pss_one (ps_ret (pv 1)))))
   , ?_⟩
  rintro ds M R ⟨os, rfl, hR⟩
  walk_at "go"
  refine lp_fold (fun (t : Int) x => ⟨[some (dI os), some (.int t), x], M⟩) (fI stp) _ 1 none ?_ ?_
  · intro a x d hd N hN
    obtain ⟨o, _, rfl⟩ := mem_ints hd
    walk_at "dl"
    exact hN _
  · intro x
    walk_at "dl"
    rw [foldl_fI]
    exact hR
abbrev s_framed : Stmt := top 7
theorem sc_framed : FnScope ["payload", "length"] ["payload"] (defScope s_framed) := ⟨rfl, rfl, rfl, by decide +kernel, rfl, by decide +kernel, by decide +kernel⟩
def T_framed : DSp := fun ds M R => ∃ os : List Int, ds = [dI os] ∧ os.length ≤ 10000 ∧ R (dI (frame os)) M
theorem d_framed (T : Tx mg) (F : Dl K mg "framed" s_framed) (G_low_octets : Df P w K mg base 1 "low_octets" 2 T_low_octets) (G_check_of : Df P w K mg base 1 "check_of" 1 T_check_of) : Df P w K mg base 2 "framed" 1 T_framed := by
  refine F.ok sc_framed (fun ds M R ⟨n, e, _⟩ => by rw [e]; rfl) (fun _ _ _ _ _ _ us hl => match us, hl with | [_], _ => rfl) fun f cdv A outer s H E hr => ⟨_, (pss_cons (ps_set (i := 1) sc_framed.nd rfl (by first | exact Or.inl rfl | exact Or.inr rfl) (pe_callD G_low_octets (hr.mono (by decide)) (by rfl) (pa_cons (pe_callB call_len_seq (by rfl) T.len (by decide +kernel) (pa_cons (pv 0) pa_nil)) (pa_cons pe_int pa_nil))))
      (pss_one (ps_ret (pe_op op_cat (pe_op op_cat (pv 1) (pe_callD G_low_octets (hr.mono (by decide)) (by rfl) (pa_cons (pe_callD G_check_of (hr.mono (by decide)) (by rfl) (pa_cons (pe_op op_cat (pv 1) (pv 0)) pa_nil)) (pa_cons pe_int pa_nil)))) (pv 0)))))
   , ?_⟩
  rintro ds M R ⟨os, rfl, hl, hR⟩
  walk_at "go"
  refine ⟨_, 3, rfl, by decide, ?_⟩
  walk_at "dl"
  refine sc (by rw [List.length_map, List.length_map, lowI_len, sizeLine_eq]; omega) ?_
  walk_at "dl"
  rw [← List.map_append]
  refine ⟨_, rfl, ?_⟩
  walk_at "dl"
  refine ⟨_, 4, rfl, by decide, ?_⟩
  walk_at "dl"
  refine sc (by simp only [List.length_map, lowI_len, sizeLine_eq]; omega) ?_
  walk_at "dl"
  refine sc (by simp only [List.length_append, List.length_map, lowI_len, sizeLine_eq]; omega) ?_
  walk_at "dl"
  rw [← List.map_append, ← List.map_append, List.length_map]
  exact hR
end
end K00

end

section
open PySem L2 Evl DL
local macro_rules | `(tactic| walk_at "nrm") => `(tactic| dsimp only [startD, List.map_cons, List.map_nil, List.length_cons, List.length_nil, List.replicate, List.set_cons_zero, List.set_cons_succ, List.cons_append, List.nil_append, Nat.reduceAdd, Nat.reduceSub, wipeD])
local macro_rules | `(tactic| walk_at "mm") => `(tactic| first | assumption | exact updM_same | (refine updM_get ?_ ?_ <;> first | assumption | (apply Ne.symm; assumption) | walk_at "mm"))
local macro_rules | `(tactic| walk_at "side") => `(tactic| first | omega | (simp only [List.length_cons, List.length_nil, List.length_append, List.length_map, sizeLine_eq]; omega) | exact Or.inr ⟨by omega, by omega⟩ | exact Or.inl ⟨by omega, by omega⟩ | exact And.intro (by omega) (by omega) | exact And.intro (by omega) (And.intro (by omega) (by decide)))
local macro_rules | `(tactic| walk_at "d0") => `(tactic| first
  | ((with_reducible first | show Pd.nx _ _ | show Pd.bk _ _ | show Pd.ct _ _ | show Pd.rt _ _ _); walk_at "nrm")
  | (with_reducible refine' es_set ?_) | (with_reducible refine' es_drop ?_) | (with_reducible refine' es_ret ?_) | (with_reducible refine' w_if ?_) | (with_reducible refine' es_next ?_) | (with_reducible refine' es_break ?_) | (with_reducible refine' es_cont ?_) | (with_reducible refine' es_retN ?_) | (with_reducible refine' es_asg ?_) | (with_reducible refine' es_for ?_) | ((with_reducible refine' w_aug ?hh ?_); (case hh => exact rfl)))
local macro_rules | `(tactic| walk_at "dx") => `(tactic| first
  | ((with_reducible refine' ed_var ?hh ?_); (case hh => exact rfl)) | ((with_reducible refine' w_varF ?hh ?hm ?_); (case hh => exact rfl); (case hm => walk_at "mm"))
  | (with_reducible refine' w_int ?_) | (with_reducible refine' w_str ?_) | (with_reducible refine' w_bl ?_) | (with_reducible refine' w_non ?_) | (with_reducible refine' w_add ?_) | (with_reducible refine' w_sub ?_) | (with_reducible refine' w_mul ?_) | (with_reducible refine' w_mulW ?_) | (with_reducible refine' w_mod ?_) | (with_reducible refine' w_fdiv ?_) | (with_reducible refine' w_fdivW ?_) | (with_reducible refine' w_pow ?_) | (with_reducible refine' w_neg ?_) | (with_reducible refine' w_lt ?_) | (with_reducible refine' w_le ?_) | (with_reducible refine' w_gt ?_) | (with_reducible refine' w_ge ?_) | (with_reducible refine' w_eq ?_) | (with_reducible refine' w_ne ?_) | (with_reducible refine' w_isN ?_) | (with_reducible refine' w_notN ?_) | (with_reducible refine' w_andV ?_) | (with_reducible refine' w_orV ?_) | (with_reducible refine' w_notV ?_) | (with_reducible refine' w_ife ?_) | (with_reducible refine' w_lst ?_) | (with_reducible refine' w_lstM ?_) | (with_reducible refine' w_tup ?_) | (with_reducible refine' w_ixL ?_) | (with_reducible refine' w_ixT ?_) | (with_reducible refine' w_slL ?_) | (with_reducible refine' w_cat ?_) | (with_reducible refine' w_len ?_) | (with_reducible refine' w_list ?_) | (with_reducible refine' w_int1 ?_) | (with_reducible refine' w_app ?_) | (with_reducible refine' w_ext ?_) | (with_reducible refine' w_pop ?_) | (with_reducible refine' w_call ?_) | (with_reducible refine' w_eqD ?_) | (with_reducible refine' w_neD ?_))
local macro_rules | `(tactic| walk_at "dt") => `(tactic| first
  | (with_reducible refine' w_test ?_) | (with_reducible refine' w_B ?_) | (with_reducible refine' w_and ?_) | (with_reducible refine' w_or ?_) | (with_reducible refine' w_not ?_) | (with_reducible refine' et_yes ?_) | (with_reducible refine' ea_nil ?_) | (with_reducible refine' ea_cons ?_) | (with_reducible refine' eo_none ?_) | (with_reducible refine' w_part ?_) | (with_reducible refine' eg_name ?_) | (with_reducible refine' w_setM ?_) | (with_reducible refine' w_tupT ?_) | (with_reducible refine' egs_nil ?_) | (with_reducible refine' egs_cons ?_) | (with_reducible refine' w_iL ?_) | (with_reducible refine' w_iT ?_) | (with_reducible refine' w_iR1 ?_) | (with_reducible refine' w_iR2 ?_) | (with_reducible refine' w_iRev ?_))
local macro_rules | `(tactic| walk_at "dw") => `(tactic| first
  | (with_reducible refine' i1 ?_) | (with_reducible refine' i2 ?_) | (with_reducible refine' s1 ?_) | (with_reducible refine' s2 ?_) | (with_reducible refine' b1 ?_) | (with_reducible refine' l1_lst ?_) | (with_reducible refine' l1_frz ?_) | (with_reducible refine' l1_tup ?_) | (with_reducible refine' ll1_lst ?_) | (with_reducible refine' ll1_frz ?_) | (with_reducible refine' f1_lst ?_) | (with_reducible refine' f1_frz ?_) | (with_reducible refine' t1 ?_) | (with_reducible refine' n1 ?_) | (with_reducible refine' e2_int ?_) | (with_reducible refine' e2_str ?_) | (with_reducible refine' e2_bl ?_) | (with_reducible refine' br_not ?_) | (with_reducible refine' br_true ?_) | (with_reducible refine' br_false ?_)
  | ((with_reducible refine' sc ?hh ?_); (case hh => walk_at "side")) | ((with_reducible refine' l1_adr ?hm ?_); (case hm => walk_at "mm")) | ((with_reducible refine' ll1_adr ?hm ?_); (case hm => walk_at "mm")) | ((with_reducible refine' m1 ?hm ?_); (case hm => walk_at "mm")) | ((with_reducible refine' g1 ?hm ?_); (case hm => walk_at "mm"))
  | ((with_reducible refine' br_pos ?hh ?_); (case hh => omega)) | ((with_reducible refine' br_neg ?hh ?_); (case hh => omega)))
local macro_rules | `(tactic| walk_at "dm") => `(tactic| repeat (first | walk_at "dw" | walk_at "dx" | walk_at "dt" | walk_at "d0"))
local macro_rules | `(tactic| walk_at "dl") => `(tactic| repeat (first | walk_at "dw" | walk_at "dx" | walk_at "dt" | walk_at "d0" | (with_reducible refine' es_seq ?_)))
local macro_rules | `(tactic| walk_at "go") => `(tactic| ((try dsimp only [L2.cxOf, L2.Cx.nox, L2.Cx.wish]); walk_at "dl"))

namespace K00
section
variable {P : Program} {w : World} {K : PySem.W.Frag} {mg : Str → Option Value} {base : Heap}
abbrev s_payloads_in : Stmt := top 8
theorem sc_payloads_in : FnScope ["octets", "found", "at", "end", "payload"] ["octets"] (defScope s_payloads_in) := ⟨rfl, rfl, rfl, by decide +kernel, rfl, by decide +kernel, by decide +kernel⟩
def T_payloads_in : DSp := fun ds M R => ∃ os : List Int, ds = [dI os] ∧ Oct os ∧ os.length ≤ 100000 ∧ R (.tup [.lst ((pin os).1.map dI), .int ((pin os).2 : Nat)]) M
theorem d_payloads_in (T : Tx mg) (F : Dl K mg "payloads_in" s_payloads_in) (G_number_of : Df P w K mg base 1 "number_of" 1 T_number_of) (G_check_of : Df P w K mg base 1 "check_of" 1 T_check_of) : Df P w K mg base 2 "payloads_in" 1 T_payloads_in := by
  refine F.ok sc_payloads_in (fun ds M R ⟨n, e, _⟩ => by rw [e]; rfl) (fun _ _ _ _ _ _ us hl => match us, hl with | [_], _ => rfl) fun f cdv A outer s H E hr => ⟨_, (pss_cons (ps_set (i := 1) sc_payloads_in.nd rfl (by first | exact Or.inl rfl | exact Or.inr rfl) (pe_lstM pa_nil))
      (pss_cons (ps_set (i := 2) sc_payloads_in.nd rfl (by first | exact Or.inl rfl | exact Or.inr rfl) pe_int)
      (pss_cons (ps_while PassesOwn.never (pt_cmpR op_le (pe_op op_add (pv 2) (pe_cst (v := .int 7) (by rfl) T.c_HEAD)) (pe_callB call_len_seq (by rfl) T.len (by decide +kernel) (pa_cons (pv 0) pa_nil)) (nomark _))
      (pss_cons (ps_set (i := 3) sc_payloads_in.nd rfl (by first | exact Or.inl rfl | exact Or.inr rfl) (pe_op op_add (pe_op op_add (pv 2) (pe_cst (v := .int 7) (by rfl) T.c_HEAD)) (pe_callD G_number_of (hr.mono (by decide)) (by rfl) (pa_cons (pe_slice sl_list (pv 0) (po_some (pv 2)) (po_some (pe_op op_add (pv 2) pe_int))) pa_nil))))
      (pss_cons (ps_if (pt_cmpR op_gt (pv 3) (pe_callB call_len_seq (by rfl) T.len (by decide +kernel) (pa_cons (pv 0) pa_nil)) (nomark _))
      (pss_one ps_break)
      pss_nil)
      (pss_cons (ps_set (i := 4) sc_payloads_in.nd rfl (by first | exact Or.inl rfl | exact Or.inr rfl) (pe_slice sl_list (pv 0) (po_some (pe_op op_add (pv 2) (pe_cst (v := .int 7) (by rfl) T.c_HEAD))) (po_some (pv 3))))
      (pss_cons (ps_if (pt_cmpR op_ne (pe_callD G_number_of (hr.mono (by decide)) (by rfl) (pa_cons (pe_slice sl_list (pv 0) (po_some (pe_op op_add (pv 2) pe_int)) (po_some (pe_op op_add (pv 2) (pe_cst (v := .int 7) (by rfl) T.c_HEAD)))) pa_nil)) (pe_callD G_check_of (hr.mono (by decide)) (by rfl) (pa_cons (pe_op op_cat (pe_slice sl_list (pv 0) (po_some (pv 2)) (po_some (pe_op op_add (pv 2) pe_int))) (pv 4)) pa_nil)) (nomark _))
      (pss_one ps_break)
      pss_nil)
      (pss_cons (ps_expr (pe_bm PySem.F.plainAttrs_list PySem.F.slot_list_append PySem.F.type_list_append mt_append (pv 1) (pa_cons (pv 4) pa_nil)))
      (pss_one (ps_set (i := 2) sc_payloads_in.nd rfl (by first | exact Or.inl rfl | exact Or.inr rfl) (pv 3)))))))))
      (pss_one (ps_ret (pe_tup (pa_cons (pvF 1) (pa_cons (pv 2) pa_nil))))))))
   , ?_⟩
  rintro ds M R ⟨os, rfl, ho, hl, hR⟩
  walk_at "go"
  intro p hp
  walk_at "dl"
  refine es_while (fun f s' => ∃ (a : Nat) (fs : List (List Int)) (x y : Option D), s' = ⟨[some (dI os), some (.adr p), some (.int (a : Int)), x, y], updM M p (.lst (fs.map dI))⟩ ∧ os.length - a = f ∧ a ≤ os.length ∧ fs.length ≤ a ∧
    pin os = (fs ++ (pin (os.drop a)).1, a + (pin (os.drop a)).2)) os.length ⟨0, [], none, none, rfl, rfl, Nat.zero_le _, Nat.le_refl _, by simp⟩ ?_
  rintro f _ ⟨a, fs, x, y, rfl, hf, ha, hfs, hpin⟩
  have fin : pin os = (fs ++ [], a + 0) → R (.tup [.lst (fs.map dI), .int (a : Int)]) M := fun e => by
    rw [e] at hR
    simpa using hR
  walk_at "dl"
  refine br_dec (fun h7 => ?_) (fun h7 => ?_)
  · rw [List.length_map] at h7
    have hn0 : 0 ≤ numOf ((os.drop a).take 3) := numOf_nonneg fun o h => ho o (List.mem_of_mem_drop (List.mem_of_mem_take h))
    have hpe := pin_eq (os.drop a)
    rw [List.length_drop, if_pos (by omega)] at hpe
    walk_at "dl"
    rw [cutD_nn _ (by omega) (by omega) (by rw [List.length_map]; omega), ← List.map_drop, ← List.map_take, show ((a : Int) + 3 - (a : Int)).toNat = 3 by omega, Int.toNat_natCast]
    refine ⟨_, rfl, ?_⟩
    walk_at "dl"
    rw [List.length_map]
    generalize hn : numOf ((os.drop a).take 3) = n at *
    refine br_dec (fun h8 => ?_) (fun h8 => ?_)
    · walk_at "dl"
      rw [delM_updM hp]
      refine fin ?_
      rw [hpin, hpe, if_neg (by omega)]
    · walk_at "dl"
      rw [cutD_nn _ (by omega) (by omega) (by rw [List.length_map]; omega), ← List.map_drop, ← List.map_take, show ((a : Int) + 7 - ((a : Int) + 3)).toNat = 4 by omega, show ((a : Int) + 3).toNat = a + 3 by omega]
      refine ⟨_, rfl, ?_⟩
      walk_at "dl"
      rw [cutI_nn os (by omega) (by omega) (by omega), cutI_nn os (by omega) (by omega) (by omega), show ((a : Int) + 3 - (a : Int)).toNat = 3 by omega, Int.toNat_natCast, show ((a : Int) + 7 + n - ((a : Int) + 7)).toNat = n.toNat by omega, show ((a : Int) + 7).toNat = a + 7 by omega]
      refine sc (by simp only [List.length_map, List.length_take, List.length_drop, sizeLine_eq]; omega) ?_
      walk_at "dl"
      rw [← List.map_append]
      refine ⟨_, rfl, ?_⟩
      walk_at "dl"
      rw [show a + 3 = a + 3 from rfl, ← List.drop_drop, ← List.drop_drop]
      refine br_dec (fun h9 => ?_) (fun h9 => ?_)
      · rw [if_pos ⟨by omega, h9⟩, List.drop_drop, List.drop_drop] at hpe
        walk_at "dl"
        have e : (a : Int) + 7 + n = ((a + (7 + n.toNat) : Nat) : Int) := by omega
        rw [e, List.drop_drop, updM_updM]
        refine ⟨os.length - (a + (7 + n.toNat)), by omega, a + (7 + n.toNat), fs ++ [(os.drop (a + 7)).take n.toNat], _, _, (by rw [List.map_append]; rfl), rfl, by omega, by simp; omega, ?_⟩
        rw [hpin, hpe]
        simp only [List.append_assoc, List.cons_append, List.nil_append, Nat.add_assoc]
      · rw [if_neg (fun z => h9 z.2)] at hpe
        walk_at "dl"
        rw [delM_updM hp]
        refine fin ?_
        rw [hpin, hpe]
  · rw [List.length_map] at h7
    walk_at "dl"
    rw [delM_updM hp]
    refine fin ?_
    rw [hpin, pin_eq (os.drop a), List.length_drop, if_neg (by omega)]
abbrev s_law_number : Stmt := top 10
theorem sc_law_number : FnScope ["script", "k", "cell", "first", "second", "third"] ["script", "k"] (defScope s_law_number) := ⟨rfl, rfl, rfl, by decide +kernel, rfl, by decide +kernel, by decide +kernel⟩
def T_law_number : DSp := fun ds M R => ∃ (d : D) (ns : List Int) (k : Int), ds = [d, .int k] ∧ (d = dI ns ∨ d = .frz (ns.map .int)) ∧ 0 ≤ k ∧ k < 1000000 ∧ ∀ z : Int, R (.int z) M
theorem d_law_number (T : Tx mg) (F : Dl K mg "_law_number" s_law_number) : Df P w K mg base 1 "_law_number" 2 T_law_number := by
  refine F.ok sc_law_number (fun ds M R ⟨n, _, _, e, _⟩ => by rw [e]; rfl) (fun _ _ _ _ _ _ us hl => match us, hl with | [_, _], _ => rfl) fun f cdv A outer s H E hr => ⟨_, (pss_cons (ps_set (i := 2) sc_law_number.nd rfl (by first | exact Or.inl rfl | exact Or.inr rfl) pe_int)
      (pss_cons (ps_if (pt_cmpR op_gt (pe_callB call_len_seq (by rfl) T.len (by decide +kernel) (pa_cons (pv 0) pa_nil)) pe_int (nomark _))
      (pss_one (ps_set (i := 2) sc_law_number.nd rfl (by first | exact Or.inl rfl | exact Or.inr rfl) (pe_ix ix_list (pv 0) (pe_op op_mod (pe_callTy call_int1 (by rfl) T.int (by decide +kernel) (pa_cons (pv 1) pa_nil)) (pe_callB call_len_seq (by rfl) T.len (by decide +kernel) (pa_cons (pv 0) pa_nil))) (fun _ _ => rfl))))
      pss_nil)
      (pss_cons (ps_if (pt_cmpR op_lt (pv 2) pe_int (nomark _))
      (pss_one (ps_set (i := 2) sc_law_number.nd rfl (by first | exact Or.inl rfl | exact Or.inr rfl) (pe_op op_sub pe_int (pe_op op_mul pe_int (pv 2)))))
      pss_nil)
      (pss_cons (ps_if (PW.pt (pw_and (pt_cmpR op_ge (pv 2) (pe_op op_pow pe_int pe_int) (nomark _)) (pw_and1 (pt_cmpR op_lt (pv 1) (pe_callB call_len_seq (by rfl) T.len (by decide +kernel) (pa_cons (pv 0) pa_nil)) (nomark _)))))
      (pss_one (ps_ret (pv 2)))
      pss_nil)
      (pss_cons (ps_set (i := 3) sc_law_number.nd rfl (by first | exact Or.inl rfl | exact Or.inr rfl) (pe_op op_mod (pe_callTy call_int1 (by rfl) T.int (by decide +kernel) (pa_cons (pe_op op_add (pe_op op_mul (pe_op op_add (pv 2) pe_int) pe_int) (pe_op op_mul (pe_op op_add (pv 1) pe_int) pe_int)) pa_nil)) pe_int))
      (pss_cons (ps_set (i := 4) sc_law_number.nd rfl (by first | exact Or.inl rfl | exact Or.inr rfl) (pe_op op_mod (pe_callTy call_int1 (by rfl) T.int (by decide +kernel) (pa_cons (pe_op op_add (pe_op op_add (pe_op op_add (pe_op op_mul (pv 3) (pv 3)) (pe_op op_mul pe_int (pv 3))) (pe_op op_mul (pe_op op_add (pv 2) pe_int) pe_int)) (pv 1)) pa_nil)) pe_int))
      (pss_cons (ps_set (i := 5) sc_law_number.nd rfl (by first | exact Or.inl rfl | exact Or.inr rfl) (pe_op op_mod (pe_callTy call_int1 (by rfl) T.int (by decide +kernel) (pa_cons (pe_op op_add (pe_op op_mul (pv 4) (pv 4)) (pv 3)) pa_nil)) pe_int))
      (pss_one (ps_ret (pe_op op_mod (pe_callTy call_int1 (by rfl) T.int (by decide +kernel) (pa_cons (pe_op op_add (pe_op op_add (pe_op op_mul (pv 5) pe_int) (pe_op op_mul (pv 4) pe_int)) (pv 2)) pa_nil)) pe_int))))))))))
   , ?_⟩
  rintro ds M R ⟨d, ns, k, rfl, hd, hk, hk2, hR⟩
  have hL : ∀ (M : MM) (k : List D → Prop), k (ns.map .int) → L1 M d k := fun M k h => by
    rcases hd with rfl | rfl
    · exact l1_lst h
    · exact l1_frz h
  have hLL : ∀ (M : MM) (k : List D → Prop), k (ns.map .int) → LL1 M d k := fun M k h => by
    rcases hd with rfl | rfl
    · exact ll1_lst h
    · exact ll1_frz h
  dsimp only [L2.cxOf, L2.Cx.nox, L2.Cx.wish]
  refine es_seq (es_set (w_int ?_))
  refine es_cut (fun s' => ∃ c : Int, s' = ⟨[some d, some (.int k), some (.int c), none, none, none], M⟩) ?_ ?_
  · walk_at "dl"
    refine hL _ _ ?_
    rw [List.length_map]
    walk_at "dl"
    refine br_dec (fun h => ?_) (fun h => ?_)
    · walk_at "dl"
      refine hL _ _ ?_
      rw [List.length_map]
      walk_at "dl"
      refine hLL _ _ ?_
      walk_at "dl"
      have h1 := Int.emod_nonneg k (show (ns.length : Int) ≠ 0 by omega)
      have h2 := Int.emod_lt_of_pos k h
      obtain ⟨j, hj⟩ : ∃ j : Nat, k % (ns.length : Int) = (j : Int) := ⟨(k % (ns.length : Int)).toNat, by omega⟩
      refine at1 (atI_ints hj (List.getElem?_eq_getElem (by omega))) ?_
      exact ⟨_, rfl⟩
    · walk_at "dl"
      exact ⟨_, rfl⟩
  · rintro _ ⟨c, rfl⟩
    refine es_cut (fun s' => ∃ c : Int, s' = ⟨[some d, some (.int k), some (.int c), none, none, none], M⟩) ?_ ?_
    · walk_at "dl"
      refine br_dec (fun h => ?_) (fun h => ?_)
      · walk_at "dl"
        exact ⟨_, rfl⟩
      · walk_at "dl"
        exact ⟨_, rfl⟩
    · rintro _ ⟨c, rfl⟩
      refine es_cut (fun s' => s' = ⟨[some d, some (.int k), some (.int c), none, none, none], M⟩) ?_ ?_
      · walk_at "dl"
        refine br_dec (fun h => ?_) (fun h => ?_)
        · walk_at "dl"
          refine hL _ _ ?_
          rw [List.length_map]
          walk_at "dl"
          refine br_dec (fun h => ?_) (fun h => ?_)
          · walk_at "dl"
            exact hR _
          · walk_at "dl"
        · walk_at "dl"
      · rintro _ rfl
        walk_at "dl"
        exact hR _
abbrev s_law_take : Stmt := top 11
theorem sc_law_take : FnScope ["box", "size", "digit"] ["box", "size"] (defScope s_law_take) := ⟨rfl, rfl, rfl, by decide +kernel, rfl, by decide +kernel, by decide +kernel⟩
def T_law_take : DSp := fun ds M R => ∃ (b : Addr) (n z : Int), ds = [.adr b, .int z] ∧ M b = some (.lst [.int n]) ∧ 0 < z ∧ z < 1073741824 ∧ ∀ d n' : Int, 0 ≤ d → d < z → R (.int d) (updM M b (.lst [.int n']))
theorem d_law_take (T : Tx mg) (F : Dl K mg "_law_take" s_law_take) : Df P w K mg base 1 "_law_take" 2 T_law_take := by
  refine F.ok sc_law_take (fun ds M R ⟨n, _, _, e, _⟩ => by rw [e]; rfl) (fun _ _ _ _ _ _ us hl => match us, hl with | [_, _], _ => rfl) fun f cdv A outer s H E hr => ⟨_, (pss_cons (ps_set (i := 2) sc_law_take.nd rfl (by first | exact Or.inl rfl | exact Or.inr rfl) (pe_op op_mod (pe_callTy call_int1 (by rfl) T.int (by decide +kernel) (pa_cons (pe_ix ix_list (pv 0) pe_int (fun _ _ => rfl)) pa_nil)) (pv 1)))
      (pss_cons (ps_asg (pe_op op_fdiv (pe_ix ix_list (pv 0) pe_int (fun _ _ => rfl)) (pv 1)) (pg_sub (pv 0) pe_int set_list))
      (pss_one (ps_ret (pv 2)))))
   , ?_⟩
  rintro ds M R ⟨b, n, z, rfl, hb, h0, h1, hR⟩
  walk_at "go"
  refine at1 rfl ?_
  walk_at "dl"
  refine at1 rfl ?_
  walk_at "dl"
  refine ⟨0, rfl, ?_⟩
  walk_at "dl"
  exact hR _ _ (Int.emod_nonneg _ (by omega)) (Int.emod_lt_of_pos _ h0)
end
end K00

end

section
open PySem L2 Evl DL
local macro_rules | `(tactic| walk_at "nrm") => `(tactic| dsimp only [startD, List.map_cons, List.map_nil, List.length_cons, List.length_nil, List.replicate, List.set_cons_zero, List.set_cons_succ, List.cons_append, List.nil_append, Nat.reduceAdd, Nat.reduceSub, wipeD])
local macro_rules | `(tactic| walk_at "mm") => `(tactic| first | assumption | exact updM_same | (refine updM_get ?_ ?_ <;> first | assumption | (apply Ne.symm; assumption) | walk_at "mm"))
local macro_rules | `(tactic| walk_at "side") => `(tactic| first | omega | (simp only [List.length_cons, List.length_nil, List.length_append, List.length_map, sizeLine_eq]; omega) | exact Or.inr ⟨by omega, by omega⟩ | exact Or.inl ⟨by omega, by omega⟩ | exact And.intro (by omega) (by omega) | exact And.intro (by omega) (And.intro (by omega) (by decide)))
local macro_rules | `(tactic| walk_at "d0") => `(tactic| first
  | ((with_reducible first | show Pd.nx _ _ | show Pd.bk _ _ | show Pd.ct _ _ | show Pd.rt _ _ _); walk_at "nrm")
  | (with_reducible refine' es_set ?_) | (with_reducible refine' es_drop ?_) | (with_reducible refine' es_ret ?_) | (with_reducible refine' w_if ?_) | (with_reducible refine' es_next ?_) | (with_reducible refine' es_break ?_) | (with_reducible refine' es_cont ?_) | (with_reducible refine' es_retN ?_) | (with_reducible refine' es_asg ?_) | (with_reducible refine' es_for ?_) | ((with_reducible refine' w_aug ?hh ?_); (case hh => exact rfl)))
local macro_rules | `(tactic| walk_at "dx") => `(tactic| first
  | ((with_reducible refine' ed_var ?hh ?_); (case hh => exact rfl)) | ((with_reducible refine' w_varF ?hh ?hm ?_); (case hh => exact rfl); (case hm => walk_at "mm"))
  | (with_reducible refine' w_int ?_) | (with_reducible refine' w_str ?_) | (with_reducible refine' w_bl ?_) | (with_reducible refine' w_non ?_) | (with_reducible refine' w_add ?_) | (with_reducible refine' w_sub ?_) | (with_reducible refine' w_mul ?_) | (with_reducible refine' w_mulW ?_) | (with_reducible refine' w_mod ?_) | (with_reducible refine' w_fdiv ?_) | (with_reducible refine' w_fdivW ?_) | (with_reducible refine' w_pow ?_) | (with_reducible refine' w_neg ?_) | (with_reducible refine' w_lt ?_) | (with_reducible refine' w_le ?_) | (with_reducible refine' w_gt ?_) | (with_reducible refine' w_ge ?_) | (with_reducible refine' w_eq ?_) | (with_reducible refine' w_ne ?_) | (with_reducible refine' w_isN ?_) | (with_reducible refine' w_notN ?_) | (with_reducible refine' w_andV ?_) | (with_reducible refine' w_orV ?_) | (with_reducible refine' w_notV ?_) | (with_reducible refine' w_ife ?_) | (with_reducible refine' w_lst ?_) | (with_reducible refine' w_lstM ?_) | (with_reducible refine' w_tup ?_) | (with_reducible refine' w_ixL ?_) | (with_reducible refine' w_ixT ?_) | (with_reducible refine' w_slL ?_) | (with_reducible refine' w_cat ?_) | (with_reducible refine' w_len ?_) | (with_reducible refine' w_list ?_) | (with_reducible refine' w_int1 ?_) | (with_reducible refine' w_app ?_) | (with_reducible refine' w_ext ?_) | (with_reducible refine' w_pop ?_) | (with_reducible refine' w_call ?_) | (with_reducible refine' w_eqD ?_) | (with_reducible refine' w_neD ?_))
local macro_rules | `(tactic| walk_at "dt") => `(tactic| first
  | (with_reducible refine' w_test ?_) | (with_reducible refine' w_B ?_) | (with_reducible refine' w_and ?_) | (with_reducible refine' w_or ?_) | (with_reducible refine' w_not ?_) | (with_reducible refine' et_yes ?_) | (with_reducible refine' ea_nil ?_) | (with_reducible refine' ea_cons ?_) | (with_reducible refine' eo_none ?_) | (with_reducible refine' w_part ?_) | (with_reducible refine' eg_name ?_) | (with_reducible refine' w_setM ?_) | (with_reducible refine' w_tupT ?_) | (with_reducible refine' egs_nil ?_) | (with_reducible refine' egs_cons ?_) | (with_reducible refine' w_iL ?_) | (with_reducible refine' w_iT ?_) | (with_reducible refine' w_iR1 ?_) | (with_reducible refine' w_iR2 ?_) | (with_reducible refine' w_iRev ?_))
local macro_rules | `(tactic| walk_at "dw") => `(tactic| first
  | (with_reducible refine' i1 ?_) | (with_reducible refine' i2 ?_) | (with_reducible refine' s1 ?_) | (with_reducible refine' s2 ?_) | (with_reducible refine' b1 ?_) | (with_reducible refine' l1_lst ?_) | (with_reducible refine' l1_frz ?_) | (with_reducible refine' l1_tup ?_) | (with_reducible refine' ll1_lst ?_) | (with_reducible refine' ll1_frz ?_) | (with_reducible refine' f1_lst ?_) | (with_reducible refine' f1_frz ?_) | (with_reducible refine' t1 ?_) | (with_reducible refine' n1 ?_) | (with_reducible refine' e2_int ?_) | (with_reducible refine' e2_str ?_) | (with_reducible refine' e2_bl ?_) | (with_reducible refine' br_not ?_) | (with_reducible refine' br_true ?_) | (with_reducible refine' br_false ?_)
  | ((with_reducible refine' sc ?hh ?_); (case hh => walk_at "side")) | ((with_reducible refine' l1_adr ?hm ?_); (case hm => walk_at "mm")) | ((with_reducible refine' ll1_adr ?hm ?_); (case hm => walk_at "mm")) | ((with_reducible refine' m1 ?hm ?_); (case hm => walk_at "mm")) | ((with_reducible refine' g1 ?hm ?_); (case hm => walk_at "mm"))
  | ((with_reducible refine' br_pos ?hh ?_); (case hh => omega)) | ((with_reducible refine' br_neg ?hh ?_); (case hh => omega)))
local macro_rules | `(tactic| walk_at "dm") => `(tactic| repeat (first | walk_at "dw" | walk_at "dx" | walk_at "dt" | walk_at "d0"))
local macro_rules | `(tactic| walk_at "dl") => `(tactic| repeat (first | walk_at "dw" | walk_at "dx" | walk_at "dt" | walk_at "d0" | (with_reducible refine' es_seq ?_)))
local macro_rules | `(tactic| walk_at "go") => `(tactic| ((try dsimp only [L2.cxOf, L2.Cx.nox, L2.Cx.wish]); walk_at "dl"))

namespace K00
section
variable {P : Program} {w : World} {K : PySem.W.Frag} {mg : Str → Option Value} {base : Heap}
abbrev s_law_octets_by : Stmt := top 12
theorem sc_law_octets_by : FnScope ["box", "count", "start", "step", "turn", "k"] ["box", "count"] (defScope s_law_octets_by) := ⟨rfl, rfl, rfl, by decide +kernel, rfl, by decide +kernel, by decide +kernel⟩
theorem octets_of (a b c : Int) (n : Nat) : (rangeD 0 n).map (fI (fun _ k => D.int ((a + b * k + k * k / c) % 256)) D.non) = ((List.range n).map fun (k : Nat) => (a + b * (0 + (k : Int)) + (0 + (k : Int)) * (0 + (k : Int)) / c) % 256).map D.int := by
  unfold rangeD
  rw [List.map_map, List.map_map]
  rfl
def T_law_octets_by : DSp := fun ds M R => ∃ (b : Addr) (n : Int) (k : Nat), ds = [.adr b, .int (k : Int)] ∧ M b = some (.lst [.int n]) ∧ k ≤ 1000 ∧ ∀ (os : List Int) (n' : Int), os.length = k → Oct os → R (dI os) (updM M b (.lst [.int n']))
theorem d_law_octets_by (T : Tx mg) (F : Dl K mg "_law_octets_by" s_law_octets_by) (G_law_take : Df P w K mg base 1 "_law_take" 2 T_law_take) : Df P w K mg base 2 "_law_octets_by" 2 T_law_octets_by := by
  refine F.ok sc_law_octets_by (fun ds M R ⟨n, _, _, e, _⟩ => by rw [e]; rfl) (fun _ _ _ _ _ _ us hl => match us, hl with | [_, _], _ => rfl) fun f cdv A outer s H E hr => ⟨_, (pss_cons (ps_set (i := 2) sc_law_octets_by.nd rfl (by first | exact Or.inl rfl | exact Or.inr rfl) (pe_callD G_law_take (hr.mono (by decide)) (by rfl) (pa_cons (pv 0) (pa_cons pe_int pa_nil))))
      (pss_cons (ps_set (i := 3) sc_law_octets_by.nd rfl (by first | exact Or.inl rfl | exact Or.inr rfl) (pe_callD G_law_take (hr.mono (by decide)) (by rfl) (pa_cons (pv 0) (pa_cons pe_int pa_nil))))
      (pss_cons (ps_set (i := 4) sc_law_octets_by.nd rfl (by first | exact Or.inl rfl | exact Or.inr rfl) (pe_op op_add pe_int (pe_callD G_law_take (hr.mono (by decide)) (by rfl) (pa_cons (pv 0) (pa_cons pe_int pa_nil)))))
      (pss_one (ps_ret (pe_lc (own := [("k", 5)]) rfl sc_law_octets_by.nd (pi_range1 (by rfl) T.range (pa_cons (pv 1) pa_nil)) (blkOk_by (N := ["box", "count", "start", "step", "turn", "k"]) (sc := defScope s_law_octets_by) (by decide +kernel)) (fun _ _ _ _ _ => (pg_name (i := 5) sc_law_octets_by.nd rfl (by first | exact Or.inl rfl | exact Or.inr rfl))) (fun _ _ _ _ _ => pts_nil) (fun _ _ _ _ _ => (pe_op op_mod (pe_callTy call_int1 (by rfl) T.int (by decide +kernel) (pa_cons (pe_op op_add (pe_op op_add (pv 2) (pe_op op_mul (pv 3) (pv 5))) (pe_op op_fdiv (pe_op op_mul (pv 5) (pv 5)) (pv 4))) pa_nil)) pe_int))))))))
   , ?_⟩
  rintro ds M R ⟨b, n, k, rfl, hb, hk, hR⟩
  walk_at "go"
  refine ⟨b, n, 256, rfl, hb, by decide, by decide, fun d1 n1 h1 h2 => ?_⟩
  walk_at "dl"
  refine ⟨b, n1, 256, rfl, updM_same, by decide, by decide, fun d2 n2 h3 h4 => ?_⟩
  walk_at "dl"
  refine ⟨b, n2, 40, rfl, updM_same, by decide, by decide, fun d3 n3 h5 h6 => ?_⟩
  walk_at "dl"
  rw [updM_updM, updM_updM]
  refine ed_lcM (fI (fun _ k => D.int ((d1 + d2 * k + k * k / (1 + d3)) % 256)) D.non) (wp_name (by simp)) ?_
  walk_at "dl"
  rw [Int.toNat_natCast]
  refine ⟨by rw [rangeD_length, sizeLine_eq]; omega, fun x hx M' hM => ?_, ?_⟩
  · obtain ⟨i, hi⟩ := List.getElem?_of_mem hx
    obtain ⟨hi, rfl⟩ := rangeD_get hi
    walk_at "dl"
    exact ⟨rfl, rfl⟩
  · rw [octets_of]
    refine hR _ _ (by rw [List.length_map, List.length_range]) fun o ho => ?_
    obtain ⟨i, _, rfl⟩ := List.mem_map.mp ho
    exact ⟨Int.emod_nonneg _ (by decide), Int.emod_lt_of_pos _ (by decide)⟩
abbrev s_law_check_due : Stmt := top 13
theorem sc_law_check_due : FnScope ["octets", "total", "octet"] ["octets"] (defScope s_law_check_due) := ⟨rfl, rfl, rfl, by decide +kernel, rfl, by decide +kernel, by decide +kernel⟩
theorem d_law_check_due (T : Tx mg) (F : Dl K mg "_law_check_due" s_law_check_due) : Df P w K mg base 1 "_law_check_due" 1 T_check_of := by
  refine F.ok sc_law_check_due (fun ds M R ⟨n, e, _⟩ => by rw [e]; rfl) (fun _ _ _ _ _ _ us hl => match us, hl with | [_], _ => rfl) fun f cdv A outer s H E hr => ⟨_, (pss_cons (ps_set (i := 1) sc_law_check_due.nd rfl (by first | exact Or.inl rfl | exact Or.inr rfl) pe_int)
      (pss_cons (ps_for PassesOwn.never rfl (pi_list (pv 0)) (pg_name (i := 2) sc_law_check_due.nd rfl (by first | exact Or.inl rfl | exact Or.inr rfl))
      (pss_one (ps_set (i := 1) sc_law_check_due.nd rfl (by first | exact Or.inl rfl | exact Or.inr rfl) (pe_op op_mod (pe_callTy call_int1 (by rfl) T.int (by decide +kernel) (pa_cons (pe_op op_add (pe_op op_add (pe_op op_mul (pv 1) pe_int) (pv 2)) pe_int) pa_nil)) pe_int))))
      (pss_one (ps_ret (pv 1)))))
   , ?_⟩
  rintro ds M R ⟨os, rfl, hR⟩
  walk_at "go"
  refine lp_fold (fun (t : Int) x => ⟨[some (dI os), some (.int t), x], M⟩) (fI stp) _ 1 none ?_ ?_
  · intro a x d hd N hN
    obtain ⟨o, _, rfl⟩ := mem_ints hd
    walk_at "dl"
    exact hN _
  · intro x
    walk_at "dl"
    rw [foldl_fI]
    exact hR
abbrev s_law_check_in : Stmt := top 14
theorem sc_law_check_in : FnScope ["frame", "found", "octet"] ["frame"] (defScope s_law_check_in) := ⟨rfl, rfl, rfl, by decide +kernel, rfl, by decide +kernel, by decide +kernel⟩
def T_law_check_in : DSp := fun ds M R => ∃ os : List Int, ds = [dI os] ∧ 7 ≤ os.length ∧ R (.int (numOf ((os.drop 3).take 4))) M
theorem d_law_check_in (T : Tx mg) (F : Dl K mg "_law_check_in" s_law_check_in) : Df P w K mg base 1 "_law_check_in" 1 T_law_check_in := by
  refine F.ok sc_law_check_in (fun ds M R ⟨n, e, _⟩ => by rw [e]; rfl) (fun _ _ _ _ _ _ us hl => match us, hl with | [_], _ => rfl) fun f cdv A outer s H E hr => ⟨_, (pss_cons (ps_set (i := 1) sc_law_check_in.nd rfl (by first | exact Or.inl rfl | exact Or.inr rfl) pe_int)
      (pss_cons (ps_for PassesOwn.never rfl (pi_list (pe_lst (pa_cons (pe_ix ix_list (pv 0) pe_int (fun _ _ => rfl)) (pa_cons (pe_ix ix_list (pv 0) pe_int (fun _ _ => rfl)) (pa_cons (pe_ix ix_list (pv 0) pe_int (fun _ _ => rfl)) (pa_cons (pe_ix ix_list (pv 0) pe_int (fun _ _ => rfl)) pa_nil)))))) (pg_name (i := 2) sc_law_check_in.nd rfl (by first | exact Or.inl rfl | exact Or.inr rfl))
      (pss_one (ps_set (i := 1) sc_law_check_in.nd rfl (by first | exact Or.inl rfl | exact Or.inr rfl) (pe_op op_add (pe_op op_mul (pv 1) pe_int) (pv 2)))))
      (pss_one (ps_ret (pv 1)))))
   , ?_⟩
  rintro ds M R ⟨os, rfl, h7, hR⟩
  walk_at "go"
  refine at1 (atI_ints (j := 6) rfl (List.getElem?_eq_getElem (by omega))) ?_
  walk_at "dl"
  refine at1 (atI_ints (j := 5) rfl (List.getElem?_eq_getElem (by omega))) ?_
  walk_at "dl"
  refine at1 (atI_ints (j := 4) rfl (List.getElem?_eq_getElem (by omega))) ?_
  walk_at "dl"
  refine at1 (atI_ints (j := 3) rfl (List.getElem?_eq_getElem (by omega))) ?_
  walk_at "dl"
  refine lp_fold (fun (t : Int) x => ⟨[some (dI os), some (.int t), x], M⟩) (fI fun t o => t * 256 + o) _ 0 none ?_ ?_
  · intro a x d hd N hN
    have hd : ∃ o, d = .int o := by
      simp only [List.mem_cons, List.not_mem_nil, or_false] at hd
      rcases hd with rfl | rfl | rfl | rfl <;> exact ⟨_, rfl⟩
    obtain ⟨o, rfl⟩ := hd
    walk_at "dl"
    exact hN _
  · intro x
    walk_at "dl"
    have e : (os.drop 3).take 4 = [os[3], os[4], os[5], os[6]] := by
      rw [List.drop_eq_getElem_cons (by omega), List.take_succ_cons, List.drop_eq_getElem_cons (by omega), List.take_succ_cons, List.drop_eq_getElem_cons (by omega), List.take_succ_cons, List.drop_eq_getElem_cons (by omega), List.take_succ_cons, List.take_zero]
    rw [e] at hR
    exact hR
abbrev s_law_power : Stmt := top 15
theorem sc_law_power : FnScope ["count", "found", "k"] ["count"] (defScope s_law_power) := ⟨rfl, rfl, rfl, by decide +kernel, rfl, by decide +kernel, by decide +kernel⟩
def T_law_power : DSp := fun ds M R => ∃ n : Nat, ds = [.int (n : Int)] ∧ n ≤ 100000 ∧ R (.int (pw n)) M
theorem d_law_power (T : Tx mg) (F : Dl K mg "_law_power" s_law_power) : Df P w K mg base 1 "_law_power" 1 T_law_power := by
  refine F.ok sc_law_power (fun ds M R ⟨n, e, _⟩ => by rw [e]; rfl) (fun _ _ _ _ _ _ us hl => match us, hl with | [_], _ => rfl) fun f cdv A outer s H E hr => ⟨_, (pss_cons (ps_set (i := 1) sc_law_power.nd rfl (by first | exact Or.inl rfl | exact Or.inr rfl) pe_int)
      (pss_cons (ps_for PassesOwn.never rfl (pi_range1 (by rfl) T.range (pa_cons (pv 0) pa_nil)) (pg_name (i := 2) sc_law_power.nd rfl (by first | exact Or.inl rfl | exact Or.inr rfl))
      (pss_one (ps_set (i := 1) sc_law_power.nd rfl (by first | exact Or.inl rfl | exact Or.inr rfl) (pe_op op_mod (pe_callTy call_int1 (by rfl) T.int (by decide +kernel) (pa_cons (pe_op op_mul (pv 1) pe_int) pa_nil)) pe_int))))
      (pss_one (ps_ret (pv 1)))))
   , ?_⟩
  rintro ds M R ⟨n, rfl, hn, hR⟩
  walk_at "go"
  rw [Int.toNat_natCast]
  refine lp_range (fun i s' => ∃ x : Option D, s' = ⟨[some (.int (n : Int)), some (.int (pw i)), x], M⟩) ⟨none, rfl⟩ ?_ ?_
  · rintro i _ hi ⟨x, rfl⟩
    have := pw_range i
    simp only [PR] at this
    walk_at "dl"
    exact ⟨_, rfl⟩
  · rintro _ ⟨x, rfl⟩
    walk_at "dl"
    exact hR
end
end K00

end

section
open PySem L2 Evl DL
local macro_rules | `(tactic| walk_at "nrm") => `(tactic| dsimp only [startD, List.map_cons, List.map_nil, List.length_cons, List.length_nil, List.replicate, List.set_cons_zero, List.set_cons_succ, List.cons_append, List.nil_append, Nat.reduceAdd, Nat.reduceSub, wipeD])
local macro_rules | `(tactic| walk_at "mm") => `(tactic| first | assumption | exact updM_same | (refine updM_get ?_ ?_ <;> first | assumption | (apply Ne.symm; assumption) | walk_at "mm"))
local macro_rules | `(tactic| walk_at "side") => `(tactic| first | omega | (simp only [List.length_cons, List.length_nil, List.length_append, List.length_map, sizeLine_eq]; omega) | exact Or.inr ⟨by omega, by omega⟩ | exact Or.inl ⟨by omega, by omega⟩ | exact And.intro (by omega) (by omega) | exact And.intro (by omega) (And.intro (by omega) (by decide)))
local macro_rules | `(tactic| walk_at "d0") => `(tactic| first
  | ((with_reducible first | show Pd.nx _ _ | show Pd.bk _ _ | show Pd.ct _ _ | show Pd.rt _ _ _); walk_at "nrm")
  | (with_reducible refine' es_set ?_) | (with_reducible refine' es_drop ?_) | (with_reducible refine' es_ret ?_) | (with_reducible refine' w_if ?_) | (with_reducible refine' es_next ?_) | (with_reducible refine' es_break ?_) | (with_reducible refine' es_cont ?_) | (with_reducible refine' es_retN ?_) | (with_reducible refine' es_asg ?_) | (with_reducible refine' es_for ?_) | ((with_reducible refine' w_aug ?hh ?_); (case hh => exact rfl)))
local macro_rules | `(tactic| walk_at "dx") => `(tactic| first
  | ((with_reducible refine' ed_var ?hh ?_); (case hh => exact rfl)) | ((with_reducible refine' w_varF ?hh ?hm ?_); (case hh => exact rfl); (case hm => walk_at "mm"))
  | (with_reducible refine' w_int ?_) | (with_reducible refine' w_str ?_) | (with_reducible refine' w_bl ?_) | (with_reducible refine' w_non ?_) | (with_reducible refine' w_add ?_) | (with_reducible refine' w_sub ?_) | (with_reducible refine' w_mul ?_) | (with_reducible refine' w_mulW ?_) | (with_reducible refine' w_mod ?_) | (with_reducible refine' w_fdiv ?_) | (with_reducible refine' w_fdivW ?_) | (with_reducible refine' w_pow ?_) | (with_reducible refine' w_neg ?_) | (with_reducible refine' w_lt ?_) | (with_reducible refine' w_le ?_) | (with_reducible refine' w_gt ?_) | (with_reducible refine' w_ge ?_) | (with_reducible refine' w_eq ?_) | (with_reducible refine' w_ne ?_) | (with_reducible refine' w_isN ?_) | (with_reducible refine' w_notN ?_) | (with_reducible refine' w_andV ?_) | (with_reducible refine' w_orV ?_) | (with_reducible refine' w_notV ?_) | (with_reducible refine' w_ife ?_) | (with_reducible refine' w_lst ?_) | (with_reducible refine' w_lstM ?_) | (with_reducible refine' w_tup ?_) | (with_reducible refine' w_ixL ?_) | (with_reducible refine' w_ixT ?_) | (with_reducible refine' w_slL ?_) | (with_reducible refine' w_cat ?_) | (with_reducible refine' w_len ?_) | (with_reducible refine' w_list ?_) | (with_reducible refine' w_int1 ?_) | (with_reducible refine' w_app ?_) | (with_reducible refine' w_ext ?_) | (with_reducible refine' w_pop ?_) | (with_reducible refine' w_call ?_) | (with_reducible refine' w_eqD ?_) | (with_reducible refine' w_neD ?_))
local macro_rules | `(tactic| walk_at "dt") => `(tactic| first
  | (with_reducible refine' w_test ?_) | (with_reducible refine' w_B ?_) | (with_reducible refine' w_and ?_) | (with_reducible refine' w_or ?_) | (with_reducible refine' w_not ?_) | (with_reducible refine' et_yes ?_) | (with_reducible refine' ea_nil ?_) | (with_reducible refine' ea_cons ?_) | (with_reducible refine' eo_none ?_) | (with_reducible refine' w_part ?_) | (with_reducible refine' eg_name ?_) | (with_reducible refine' w_setM ?_) | (with_reducible refine' w_tupT ?_) | (with_reducible refine' egs_nil ?_) | (with_reducible refine' egs_cons ?_) | (with_reducible refine' w_iL ?_) | (with_reducible refine' w_iT ?_) | (with_reducible refine' w_iR1 ?_) | (with_reducible refine' w_iR2 ?_) | (with_reducible refine' w_iRev ?_))
local macro_rules | `(tactic| walk_at "dw") => `(tactic| first
  | (with_reducible refine' i1 ?_) | (with_reducible refine' i2 ?_) | (with_reducible refine' s1 ?_) | (with_reducible refine' s2 ?_) | (with_reducible refine' b1 ?_) | (with_reducible refine' l1_lst ?_) | (with_reducible refine' l1_frz ?_) | (with_reducible refine' l1_tup ?_) | (with_reducible refine' ll1_lst ?_) | (with_reducible refine' ll1_frz ?_) | (with_reducible refine' f1_lst ?_) | (with_reducible refine' f1_frz ?_) | (with_reducible refine' t1 ?_) | (with_reducible refine' n1 ?_) | (with_reducible refine' e2_int ?_) | (with_reducible refine' e2_str ?_) | (with_reducible refine' e2_bl ?_) | (with_reducible refine' br_not ?_) | (with_reducible refine' br_true ?_) | (with_reducible refine' br_false ?_)
  | ((with_reducible refine' sc ?hh ?_); (case hh => walk_at "side")) | ((with_reducible refine' l1_adr ?hm ?_); (case hm => walk_at "mm")) | ((with_reducible refine' ll1_adr ?hm ?_); (case hm => walk_at "mm")) | ((with_reducible refine' m1 ?hm ?_); (case hm => walk_at "mm")) | ((with_reducible refine' g1 ?hm ?_); (case hm => walk_at "mm"))
  | ((with_reducible refine' br_pos ?hh ?_); (case hh => omega)) | ((with_reducible refine' br_neg ?hh ?_); (case hh => omega)))
local macro_rules | `(tactic| walk_at "dm") => `(tactic| repeat (first | walk_at "dw" | walk_at "dx" | walk_at "dt" | walk_at "d0"))
local macro_rules | `(tactic| walk_at "dl") => `(tactic| repeat (first | walk_at "dw" | walk_at "dx" | walk_at "dt" | walk_at "d0" | (with_reducible refine' es_seq ?_)))
local macro_rules | `(tactic| walk_at "go") => `(tactic| ((try dsimp only [L2.cxOf, L2.Cx.nox, L2.Cx.wish]); walk_at "dl"))

namespace K00
section
variable {P : Program} {w : World} {K : PySem.W.Frag} {mg : Str → Option Value} {base : Heap}
abbrev s_law_row_holds : Stmt := top 16
theorem sc_law_row_holds : FnScope ["number", "payloads", "k", "box", "octets", "places", "payload", "spot", "bent"] ["number"] (defScope s_law_row_holds) := ⟨rfl, rfl, rfl, by decide +kernel, rfl, by decide +kernel, by decide +kernel⟩
def plc (ps : List (List Int)) (i : Nat) : List D := (List.range i).map fun k => D.int ((frames (ps.take k)).length : Int)
theorem plc_succ (ps : List (List Int)) (i : Nat) : plc ps (i + 1) = plc ps i ++ [.int ((frames (ps.take i)).length : Int)] := by
  unfold plc
  rw [List.range_succ, List.map_append]
  rfl
theorem plc_get (ps : List (List Int)) {i k : Nat} (h : k < i) : (plc ps i)[k]? = some (.int ((frames (ps.take k)).length : Int)) := by
  unfold plc
  rw [List.getElem?_map, List.getElem?_range h]
  rfl
theorem plc_len (ps : List (List Int)) (i : Nat) : (plc ps i).length = i := by
  unfold plc
  rw [List.length_map, List.length_range]
theorem cmp_dIs {n : Nat} {l : List (List Int)} : cmpD (n + 2) (.lst (l.map dI)) := fun x hx => by
  obtain ⟨i, _, rfl⟩ := List.mem_map.mp hx
  exact cmpD_ints
theorem cmp_pair {n : Nat} {l : List (List Int)} {z : Int} : cmpD (n + 3) (.tup [.lst (l.map dI), .int z]) := fun x hx => by
  simp only [List.mem_cons, List.not_mem_nil, or_false] at hx
  rcases hx with rfl | rfl
  · exact cmp_dIs
  · trivial
def T_law_row_holds : DSp := fun ds M R => ∃ n : Int, ds = [.int n] ∧ ∀ M', Inc M M' → R (.bl true) M'
theorem d_law_row_holds (T : Tx mg) (F : Dl K mg "_law_row_holds" s_law_row_holds) (G_law_number : Df P w K mg base 1 "_law_number" 2 T_law_number) (G_law_take : Df P w K mg base 1 "_law_take" 2 T_law_take)
    (G_law_octets_by : Df P w K mg base 2 "_law_octets_by" 2 T_law_octets_by) (G_framed : Df P w K mg base 2 "framed" 1 T_framed) (G_payloads_in : Df P w K mg base 2 "payloads_in" 1 T_payloads_in) : Df P w K mg base 3 "_law_row_holds" 1 T_law_row_holds := by
  refine F.ok sc_law_row_holds (fun ds M R ⟨n, e, _⟩ => by rw [e]; rfl) (fun _ _ _ _ _ _ us hl => match us, hl with | [_], _ => rfl) fun f cdv A outer s H E hr => ⟨_, (pss_cons (ps_set (i := 1) sc_law_row_holds.nd rfl (by first | exact Or.inl rfl | exact Or.inr rfl) (pe_lstM pa_nil))
      (pss_cons (ps_for PassesOwn.never rfl (pi_range1 (by rfl) T.range (pa_cons pe_int pa_nil)) (pg_name (i := 2) sc_law_row_holds.nd rfl (by first | exact Or.inl rfl | exact Or.inr rfl))
      (pss_cons (ps_set (i := 3) sc_law_row_holds.nd rfl (by first | exact Or.inl rfl | exact Or.inr rfl) (pe_lstM (pa_cons (pe_callD G_law_number (hr.mono (by decide)) (by rfl) (pa_cons (pe_lst (pa_cons (pv 0) pa_nil)) (pa_cons (pe_op op_add pe_int (pv 2)) pa_nil))) pa_nil)))
      (pss_one (ps_expr (pe_bm PySem.F.plainAttrs_list PySem.F.slot_list_append PySem.F.type_list_append mt_append (pv 1) (pa_cons (pe_callD G_law_octets_by (hr.mono (by decide)) (by rfl) (pa_cons (pv 3) (pa_cons (pe_op op_add pe_int (pe_callD G_law_take (hr.mono (by decide)) (by rfl) (pa_cons (pv 3) (pa_cons pe_int pa_nil)))) pa_nil))) pa_nil))))))
      (pss_cons (ps_set (i := 4) sc_law_row_holds.nd rfl (by first | exact Or.inl rfl | exact Or.inr rfl) (pe_lst pa_nil))
      (pss_cons (ps_set (i := 5) sc_law_row_holds.nd rfl (by first | exact Or.inl rfl | exact Or.inr rfl) (pe_lstM pa_nil))
      (pss_cons (ps_for PassesOwn.never rfl (pi_list (pvF 1)) (pg_name (i := 6) sc_law_row_holds.nd rfl (by first | exact Or.inl rfl | exact Or.inr rfl))
      (pss_cons (ps_expr (pe_bm PySem.F.plainAttrs_list PySem.F.slot_list_append PySem.F.type_list_append mt_append (pv 5) (pa_cons (pe_callB call_len_seq (by rfl) T.len (by decide +kernel) (pa_cons (pv 4) pa_nil)) pa_nil)))
      (pss_one (ps_set (i := 4) sc_law_row_holds.nd rfl (by first | exact Or.inl rfl | exact Or.inr rfl) (pe_op op_cat (pv 4) (pe_callD G_framed (hr.mono (by decide)) (by rfl) (pa_cons (pe_callTy call_list_of (by rfl) T.list (by decide +kernel) (pa_cons (pv 6) pa_nil)) pa_nil)))))))
      (pss_cons (ps_if (pt_cmpR (op_neD hr.units) (pe_callD G_payloads_in (hr.mono (by decide)) (by rfl) (pa_cons (pe_callTy call_list_of (by rfl) T.list (by decide +kernel) (pa_cons (pv 4) pa_nil)) pa_nil)) (pe_tup (pa_cons (pv 1) (pa_cons (pe_callB call_len_seq (by rfl) T.len (by decide +kernel) (pa_cons (pv 4) pa_nil)) pa_nil))) (nomark _))
      (pss_one (ps_ret pe_bl))
      pss_nil)
      (pss_cons (ps_for PassesOwn.never rfl (pi_range1 (by rfl) T.range (pa_cons pe_int pa_nil)) (pg_name (i := 2) sc_law_row_holds.nd rfl (by first | exact Or.inl rfl | exact Or.inr rfl))
      (pss_cons (ps_set (i := 3) sc_law_row_holds.nd rfl (by first | exact Or.inl rfl | exact Or.inr rfl) (pe_lstM (pa_cons (pe_callD G_law_number (hr.mono (by decide)) (by rfl) (pa_cons (pe_lst (pa_cons (pv 0) pa_nil)) (pa_cons (pe_op op_add pe_int (pv 2)) pa_nil))) pa_nil)))
      (pss_cons (ps_set (i := 7) sc_law_row_holds.nd rfl (by first | exact Or.inl rfl | exact Or.inr rfl) (pe_op op_add (pe_op op_add (pe_ix ix_list (pv 5) (pv 2) (fun _ _ => rfl)) pe_int) (pe_callD G_law_take (hr.mono (by decide)) (by rfl) (pa_cons (pv 3) (pa_cons (pe_callB call_len_seq (by rfl) T.len (by decide +kernel) (pa_cons (pe_ix ix_list (pv 1) (pv 2) (fun _ _ => rfl)) pa_nil)) pa_nil)))))
      (pss_cons (ps_set (i := 8) sc_law_row_holds.nd rfl (by first | exact Or.inl rfl | exact Or.inr rfl) (pe_op op_cat (pe_op op_cat (pe_slice sl_list (pv 4) po_none (po_some (pv 7))) (pe_lst (pa_cons (pe_op op_mod (pe_callTy call_int1 (by rfl) T.int (by decide +kernel) (pa_cons (pe_op op_add (pe_op op_add (pe_ix ix_list (pv 4) (pv 7) (fun _ _ => rfl)) pe_int) (pe_callD G_law_take (hr.mono (by decide)) (by rfl) (pa_cons (pv 3) (pa_cons pe_int pa_nil)))) pa_nil)) pe_int) pa_nil))) (pe_slice sl_list (pv 4) (po_some (pe_op op_add (pv 7) pe_int)) po_none)))
      (pss_one (ps_if (pt_cmpR (op_neD hr.units) (pe_callD G_payloads_in (hr.mono (by decide)) (by rfl) (pa_cons (pv 8) pa_nil)) (pe_tup (pa_cons (pe_slice sl_list (pv 1) po_none (po_some (pv 2))) (pa_cons (pe_ix ix_list (pv 5) (pv 2) (fun _ _ => rfl)) pa_nil))) (nomark _))
      (pss_one (ps_ret pe_bl))
      pss_nil))))))
      (pss_one (ps_ret pe_bl)))))))))
   , ?_⟩
  rintro ds M R ⟨n, rfl, hR⟩
  walk_at "go"
  intro p hp
  have hp : M p = none := hp
  walk_at "dl"
  refine lp_range (n := 4) (fun i s' => ∃ (ps : List (List Int)) (x y : Option D) (M1 : MM), s' = ⟨[some (.int n), some (.adr p), x, y, none, none, none, none, none], M1⟩ ∧ ps.length = i ∧ (∀ q ∈ ps, Oct q ∧ 1 ≤ q.length ∧ q.length ≤ 40) ∧ M1 p = some (.lst (ps.map dI)) ∧ Inc M M1)
    ⟨[], none, none, _, rfl, rfl, fun q h => (nomatch h), updM_same, (Inc.refl M).upd hp⟩ ?_ ?_
  · rintro i _ hi ⟨ps, x, y, M1, rfl, hl, hps, hm, hin⟩
    walk_at "dl"
    refine ⟨_, [n], _, rfl, .inl rfl, by omega, by omega, fun z => ?_⟩
    walk_at "dl"
    intro b hb
    have hb : M1 b = none := hb
    have hne := mm_ne hm hb
    walk_at "dl"
    refine ⟨b, z, 40, rfl, updM_same, by decide, by decide, fun d n' h1 h2 => ?_⟩
    walk_at "dl"
    refine ⟨b, n', (1 + d).toNat, by rw [Int.toNat_of_nonneg (by omega)], updM_same, by omega, fun os n'' hlo ho => ?_⟩
    walk_at "dl"
    refine ⟨ps ++ [os], _, _, _, rfl, by simp; omega, ?_, (by rw [List.map_append]; exact updM_same), ?_⟩
    · intro q hq
      rcases List.mem_append.mp hq with hq | hq
      · exact hps q hq
      · obtain rfl := List.mem_singleton.mp hq
        exact ⟨ho, by omega, by omega⟩
    · have hbM := hin.free hb
      exact (((hin.upd hbM).upd hbM).upd hbM).upd hp
  · rintro _ ⟨ps, x, y, M1, rfl, hl, hps, hm, hin⟩
    have hlen : ∀ j, (frames (ps.take j)).length ≤ 4 * 47 := fun j => by
      have := frames_len_le (ps := ps.take j) (m := 40) fun q hq => (hps q (List.mem_of_mem_take hq)).2.2
      rw [List.length_take] at this
      omega
    have hsz : ∀ q ∈ ps, q.length < 16777216 := fun q hq => by have := (hps q hq).2.2; omega
    walk_at "dl"
    intro q hq
    have hq : M1 q = none := hq
    have hne := mm_ne hm hq
    walk_at "dl"
    refine lp_inv (fun i s' => ∃ (z : Option D) (M2 : MM), s' = ⟨[some (.int n), some (.lst (ps.map dI)), x, y, some (dI (frames (ps.take i))), some (.adr q), z, none, none], M2⟩ ∧ M2 q = some (.lst (plc ps i)) ∧ Inc M M2)
      ⟨none, _, rfl, delM_get (Ne.symm hne) updM_same, (hin.upd (hin.free hq)).del hp⟩ ?_ ?_
    · rintro i d _ hd ⟨z, M2, rfl, hm2, hin2⟩
      rw [List.getElem?_map] at hd
      obtain ⟨pl, hpl, rfl⟩ := Option.map_eq_some_iff.mp hd
      obtain ⟨hi, rfl⟩ := List.getElem?_eq_some_iff.mp hpl
      have hpi := hps ps[i] (List.getElem_mem hi)
      have hli := hlen i
      walk_at "dl"
      refine sc (by rw [plc_len, sizeLine_eq]; omega) ?_
      walk_at "dl"
      refine ⟨_, rfl, by omega, ?_⟩
      walk_at "dl"
      refine sc (by simp only [List.length_map, frame_len, sizeLine_eq]; omega) ?_
      walk_at "dl"
      have e : frames (ps.take (i + 1)) = frames (ps.take i) ++ frame ps[i] := by rw [List.take_succ_eq_append_getElem hi, frames_append, frames_one]
      rw [List.length_map, ← List.map_append, ← e]
      exact ⟨_, _, rfl, (by rw [plc_succ]; exact updM_same), hin2.upd (hin.free hq)⟩
    · rintro _ ⟨z, M2, rfl, hm2, hin2⟩
      rw [List.length_map, hl] at hm2
      rw [List.length_map, List.take_length]
      have hfr : Oct (frames ps) := frames_oct fun r hr => (hps r hr).1
      have hfl := hlen ps.length
      rw [List.take_length] at hfl
      walk_at "dl"
      refine ⟨_, rfl, hfr, by omega, ?_⟩
      walk_at "dl"
      rw [pin_all ps hsz, List.length_map]
      refine sc ⟨cmp_pair, cmp_pair⟩ ?_
      walk_at "dl"
      refine br_eqD rfl (cmp_pair (n := 0)) ?_
      walk_at "dl"
      refine lp_range (n := 4) (fun i s' => ∃ (x y z u v : Option D) (M2 : MM), s' = ⟨[some (.int n), some (.lst (ps.map dI)), x, y, some (dI (frames ps)), some (.adr q), z, u, v], M2⟩ ∧ M2 q = some (.lst (plc ps 4)) ∧ Inc M M2)
        ⟨_, _, _, _, _, _, rfl, hm2, hin2⟩ ?_ ?_
      · rintro i _ hi ⟨x, y, z, u, v, M2, rfl, hm2, hin2⟩
        walk_at "dl"
        refine ⟨_, [n], _, rfl, .inl rfl, by omega, by omega, fun bz => ?_⟩
        walk_at "dl"
        intro b hb
        have hb : M2 b = none := hb
        have hne := mm_ne hm2 hb
        have hi' : i < ps.length := by omega
        have hpi := hps ps[i] (List.getElem_mem hi')
        walk_at "dl"
        refine at1z (plc_get ps hi) ?_
        walk_at "dl"
        refine at1z (d := dI ps[i]) (by rw [List.getElem?_map, List.getElem?_eq_getElem hi']; rfl) ?_
        walk_at "dl"
        rw [List.length_map]
        refine ⟨b, bz, _, rfl, updM_same, by omega, by omega, fun t n' h1 h2 => ?_⟩
        walk_at "dl"
        obtain ⟨t, rfl⟩ : ∃ t' : Nat, t = (t' : Int) := ⟨t.toNat, by omega⟩
        have htl : t < ps[i].length := by omega
        have hfi := frames_at ps i t hi' htl
        have hsp : ((frames (ps.take i)).length : Int) + 7 + (t : Int) = (((frames (ps.take i)).length + 7 + t : Nat) : Int) := by omega
        generalize hsg : (frames (ps.take i)).length + 7 + t = spot at hsp hfi
        rw [hsp]
        refine at1n (by rw [List.getElem?_map, hfi]; rfl) ?_
        walk_at "dl"
        refine ⟨b, n', 255, rfl, updM_same, by omega, by omega, fun e n'' h3 h4 => ?_⟩
        have hbM := hin2.free hb
        have hspl : spot < (frames ps).length := (List.getElem?_eq_some_iff.mp hfi).1
        have hx := hpi.1 _ (List.getElem_mem htl)
        generalize hvg : (ps[i][t] + 1 + e) % 256 = v
        have hv : 0 ≤ v ∧ v < 256 := by omega
        have hvn : v ≠ ps[i][t] := by omega
        walk_at "dl"
        rw [hvg, cutI_to _ (by omega), Int.toNat_natCast]
        refine sc (by simp only [List.length_map, List.length_take, List.length_cons, List.length_nil, sizeLine_eq]; omega) ?_
        walk_at "dl"
        rw [cutI_from _ (by omega), show ((spot : Int) + 1).toNat = spot + 1 by omega]
        refine sc (by simp only [List.length_append, List.length_map, List.length_take, List.length_drop, List.length_cons, List.length_nil, sizeLine_eq]; omega) ?_
        have hbp := bent_pin ps i t v hi' htl hsz (fun r hr => (hps r hr).1) hv hvn
        rw [hsg] at hbp
        have hmap : (List.map D.int ((frames ps).take spot) ++ [D.int v] ++ List.map D.int ((frames ps).drop (spot + 1))) = List.map D.int ((frames ps).take spot ++ [v] ++ (frames ps).drop (spot + 1)) := by simp
        rw [hmap]
        have hoc : Oct ((frames ps).take spot ++ [v] ++ (frames ps).drop (spot + 1)) := fun o ho => by
          rcases List.mem_append.mp ho with ho | ho
          · rcases List.mem_append.mp ho with ho | ho
            · exact hfr o (List.mem_of_mem_take ho)
            · obtain rfl := List.mem_singleton.mp ho
              exact hv
          · exact hfr o (List.mem_of_mem_drop ho)
        have hol : ((frames ps).take spot ++ [v] ++ (frames ps).drop (spot + 1)).length ≤ 100000 := by simp; omega
        generalize (frames ps).take spot ++ [v] ++ (frames ps).drop (spot + 1) = bent at *
        walk_at "dl"
        refine ⟨_, rfl, hoc, hol, ?_⟩
        rw [hbp]
        walk_at "dl"
        refine at1z (plc_get ps hi) ?_
        walk_at "dl"
        rw [Int.zero_add, cutD_to _ (by omega), Int.toNat_natCast, ← List.map_take]
        refine sc ⟨cmp_pair, cmp_pair⟩ ?_
        walk_at "dl"
        refine br_eqD rfl (cmp_pair (n := 0)) ?_
        walk_at "dl"
        exact ⟨_, _, _, _, _, _, rfl, updM_get hne (updM_get hne (updM_get hne hm2)), ((hin2.upd hbM).upd hbM).upd hbM⟩
      · rintro _ ⟨x, y, z, u, v, M2, rfl, hm2, hin2⟩
        walk_at "dl"
        exact hR M2 hin2
end
end K00

end

section
open PySem L2 Evl DL
local macro_rules | `(tactic| walk_at "nrm") => `(tactic| dsimp only [startD, List.map_cons, List.map_nil, List.length_cons, List.length_nil, List.replicate, List.set_cons_zero, List.set_cons_succ, List.cons_append, List.nil_append, Nat.reduceAdd, Nat.reduceSub, wipeD])
local macro_rules | `(tactic| walk_at "mm") => `(tactic| first | assumption | exact updM_same | (refine updM_get ?_ ?_ <;> first | assumption | (apply Ne.symm; assumption) | walk_at "mm"))
local macro_rules | `(tactic| walk_at "side") => `(tactic| first | omega | (simp only [List.length_cons, List.length_nil, List.length_append, List.length_map, sizeLine_eq]; omega) | exact Or.inr ⟨by omega, by omega⟩ | exact Or.inl ⟨by omega, by omega⟩ | exact And.intro (by omega) (by omega) | exact And.intro (by omega) (And.intro (by omega) (by decide)))
local macro_rules | `(tactic| walk_at "d0") => `(tactic| first
  | ((with_reducible first | show Pd.nx _ _ | show Pd.bk _ _ | show Pd.ct _ _ | show Pd.rt _ _ _); walk_at "nrm")
  | (with_reducible refine' es_set ?_) | (with_reducible refine' es_drop ?_) | (with_reducible refine' es_ret ?_) | (with_reducible refine' w_if ?_) | (with_reducible refine' es_next ?_) | (with_reducible refine' es_break ?_) | (with_reducible refine' es_cont ?_) | (with_reducible refine' es_retN ?_) | (with_reducible refine' es_asg ?_) | (with_reducible refine' es_for ?_) | ((with_reducible refine' w_aug ?hh ?_); (case hh => exact rfl)))
local macro_rules | `(tactic| walk_at "dx") => `(tactic| first
  | ((with_reducible refine' ed_var ?hh ?_); (case hh => exact rfl)) | ((with_reducible refine' w_varF ?hh ?hm ?_); (case hh => exact rfl); (case hm => walk_at "mm"))
  | (with_reducible refine' w_int ?_) | (with_reducible refine' w_str ?_) | (with_reducible refine' w_bl ?_) | (with_reducible refine' w_non ?_) | (with_reducible refine' w_add ?_) | (with_reducible refine' w_sub ?_) | (with_reducible refine' w_mul ?_) | (with_reducible refine' w_mulW ?_) | (with_reducible refine' w_mod ?_) | (with_reducible refine' w_fdiv ?_) | (with_reducible refine' w_fdivW ?_) | (with_reducible refine' w_pow ?_) | (with_reducible refine' w_neg ?_) | (with_reducible refine' w_lt ?_) | (with_reducible refine' w_le ?_) | (with_reducible refine' w_gt ?_) | (with_reducible refine' w_ge ?_) | (with_reducible refine' w_eq ?_) | (with_reducible refine' w_ne ?_) | (with_reducible refine' w_isN ?_) | (with_reducible refine' w_notN ?_) | (with_reducible refine' w_andV ?_) | (with_reducible refine' w_orV ?_) | (with_reducible refine' w_notV ?_) | (with_reducible refine' w_ife ?_) | (with_reducible refine' w_lst ?_) | (with_reducible refine' w_lstM ?_) | (with_reducible refine' w_tup ?_) | (with_reducible refine' w_ixL ?_) | (with_reducible refine' w_ixT ?_) | (with_reducible refine' w_slL ?_) | (with_reducible refine' w_cat ?_) | (with_reducible refine' w_len ?_) | (with_reducible refine' w_list ?_) | (with_reducible refine' w_int1 ?_) | (with_reducible refine' w_app ?_) | (with_reducible refine' w_ext ?_) | (with_reducible refine' w_pop ?_) | (with_reducible refine' w_call ?_) | (with_reducible refine' w_eqD ?_) | (with_reducible refine' w_neD ?_))
local macro_rules | `(tactic| walk_at "dt") => `(tactic| first
  | (with_reducible refine' w_test ?_) | (with_reducible refine' w_B ?_) | (with_reducible refine' w_and ?_) | (with_reducible refine' w_or ?_) | (with_reducible refine' w_not ?_) | (with_reducible refine' et_yes ?_) | (with_reducible refine' ea_nil ?_) | (with_reducible refine' ea_cons ?_) | (with_reducible refine' eo_none ?_) | (with_reducible refine' w_part ?_) | (with_reducible refine' eg_name ?_) | (with_reducible refine' w_setM ?_) | (with_reducible refine' w_tupT ?_) | (with_reducible refine' egs_nil ?_) | (with_reducible refine' egs_cons ?_) | (with_reducible refine' w_iL ?_) | (with_reducible refine' w_iT ?_) | (with_reducible refine' w_iR1 ?_) | (with_reducible refine' w_iR2 ?_) | (with_reducible refine' w_iRev ?_))
local macro_rules | `(tactic| walk_at "dw") => `(tactic| first
  | (with_reducible refine' i1 ?_) | (with_reducible refine' i2 ?_) | (with_reducible refine' s1 ?_) | (with_reducible refine' s2 ?_) | (with_reducible refine' b1 ?_) | (with_reducible refine' l1_lst ?_) | (with_reducible refine' l1_frz ?_) | (with_reducible refine' l1_tup ?_) | (with_reducible refine' ll1_lst ?_) | (with_reducible refine' ll1_frz ?_) | (with_reducible refine' f1_lst ?_) | (with_reducible refine' f1_frz ?_) | (with_reducible refine' t1 ?_) | (with_reducible refine' n1 ?_) | (with_reducible refine' e2_int ?_) | (with_reducible refine' e2_str ?_) | (with_reducible refine' e2_bl ?_) | (with_reducible refine' br_not ?_) | (with_reducible refine' br_true ?_) | (with_reducible refine' br_false ?_)
  | ((with_reducible refine' sc ?hh ?_); (case hh => walk_at "side")) | ((with_reducible refine' l1_adr ?hm ?_); (case hm => walk_at "mm")) | ((with_reducible refine' ll1_adr ?hm ?_); (case hm => walk_at "mm")) | ((with_reducible refine' m1 ?hm ?_); (case hm => walk_at "mm")) | ((with_reducible refine' g1 ?hm ?_); (case hm => walk_at "mm"))
  | ((with_reducible refine' br_pos ?hh ?_); (case hh => omega)) | ((with_reducible refine' br_neg ?hh ?_); (case hh => omega)))
local macro_rules | `(tactic| walk_at "dm") => `(tactic| repeat (first | walk_at "dw" | walk_at "dx" | walk_at "dt" | walk_at "d0"))
local macro_rules | `(tactic| walk_at "dl") => `(tactic| repeat (first | walk_at "dw" | walk_at "dx" | walk_at "dt" | walk_at "d0" | (with_reducible refine' es_seq ?_)))
local macro_rules | `(tactic| walk_at "go") => `(tactic| ((try dsimp only [L2.cxOf, L2.Cx.nox, L2.Cx.wish]); walk_at "dl"))

namespace K00
theorem head_low {c : Int} (h : 0 ≤ c ∧ c ≤ 900) : [D.int (c % 256), D.int (c / 256 % 256), D.int (c / 65536)] = (lowI c 3).map D.int := by
  rw [lowI_3]
  have e : c / 65536 = c / 65536 % 256 := by omega
  rw [e]
  simp
theorem frame_cut (os : List Int) (h : os.length < 16777216) : (frame os).take 3 = lowI os.length 3 ∧ (frame os).drop 7 = os ∧ numOf (((frame os).drop 3).take 4) = chk (lowI os.length 3 ++ os) := by
  obtain ⟨h1, h2, h3, h4, h5, h6⟩ := head_cut os (lowI (chk (lowI os.length 3 ++ os)) 4) [] h (lowI_len _ _)
  rw [List.append_nil] at h1 h2 h4 h5 h6
  have hr := chk_range (lowI os.length 3 ++ os)
  simp only [PR] at hr
  refine ⟨h1, ?_, ?_⟩
  · unfold frame
    rw [List.drop_left' (by rw [List.length_append, lowI_len, lowI_len])]
  · unfold frame
    rw [h2, num_low4 ⟨hr.1, by omega⟩]
theorem weak_any {ρ ρ' : List (Option D)} {M : MM} (h : WkS ρ ρ') : ∃ s3, Weak ⟨ρ, M⟩ s3 ∧ ∃ M', s3 = ⟨ρ', M'⟩ := ⟨⟨ρ', M⟩, ⟨h, Inc.refl _⟩, M, rfl⟩
section
variable {P : Program} {w : World} {K : PySem.W.Frag} {mg : Str → Option Value} {base : Heap}
abbrev s_law : Stmt := top 17
theorem sc_law : FnScope ["script", "turn", "number", "box", "count", "payload", "frame", "head", "check", "place", "other", "power", "told", "swapped", "due"] ["script"] (defScope s_law) := ⟨rfl, rfl, rfl, by decide +kernel, rfl, by decide +kernel, by decide +kernel⟩
def T_law : DSp := fun ds M R => ∃ ns : List Int, ds = [.frz (ns.map .int)] ∧ ∀ M', R (.bl true) M'
theorem ok_law {fa : Addr} {fd : FuncData} (T : Tx mg) (F : Fun K "law" "law" s_law fa fd) (G_law_number : Df P w K mg base 1 "_law_number" 2 T_law_number) (G_law_take : Df P w K mg base 1 "_law_take" 2 T_law_take)
    (G_law_octets_by : Df P w K mg base 2 "_law_octets_by" 2 T_law_octets_by) (G_framed : Df P w K mg base 2 "framed" 1 T_framed) (G_law_row_holds : Df P w K mg base 3 "_law_row_holds" 1 T_law_row_holds)
    (G_law_check_due : Df P w K mg base 1 "_law_check_due" 1 T_check_of) (G_law_check_in : Df P w K mg base 1 "_law_check_in" 1 T_law_check_in) (G_law_power : Df P w K mg base 1 "_law_power" 1 T_law_power) : FnOk P w K mg base CX0 4 fa fd ["script"] (spOf K T_law) := by
  refine okD F sc_law (fun ds M R ⟨n, e, _⟩ => by rw [e]; rfl) fun cdv A outer s H E hr => ⟨_, (pss_cons (ps_for PassesOwn.never rfl (pi_range1 (by rfl) T.range (pa_cons pe_int pa_nil)) (pg_name (i := 1) sc_law.nd rfl (by first | exact Or.inl rfl | exact Or.inr rfl))
      (pss_cons (ps_set (i := 2) sc_law.nd rfl (by first | exact Or.inl rfl | exact Or.inr rfl) (pe_callD G_law_number (hr.mono (by decide)) (by rfl) (pa_cons (pv 0) (pa_cons (pv 1) pa_nil))))
      (pss_cons (ps_set (i := 3) sc_law.nd rfl (by first | exact Or.inl rfl | exact Or.inr rfl) (pe_lstM (pa_cons (pv 2) pa_nil)))
      (pss_cons (ps_set (i := 4) sc_law.nd rfl (by first | exact Or.inl rfl | exact Or.inr rfl) (pe_ix ix_list (pe_lst (pa_cons (pe_callD G_law_take (hr.mono (by decide)) (by rfl) (pa_cons (pv 3) (pa_cons pe_int pa_nil))) (pa_cons (pe_callD G_law_take (hr.mono (by decide)) (by rfl) (pa_cons (pv 3) (pa_cons pe_int pa_nil))) pa_nil))) (pe_callD G_law_take (hr.mono (by decide)) (by rfl) (pa_cons (pv 3) (pa_cons pe_int pa_nil))) (fun _ _ => rfl)))
      (pss_cons (ps_set (i := 5) sc_law.nd rfl (by first | exact Or.inl rfl | exact Or.inr rfl) (pe_callD G_law_octets_by (hr.mono (by decide)) (by rfl) (pa_cons (pv 3) (pa_cons (pv 4) pa_nil))))
      (pss_cons (ps_set (i := 6) sc_law.nd rfl (by first | exact Or.inl rfl | exact Or.inr rfl) (pe_callD G_framed (hr.mono (by decide)) (by rfl) (pa_cons (pe_callTy call_list_of (by rfl) T.list (by decide +kernel) (pa_cons (pv 5) pa_nil)) pa_nil)))
      (pss_cons (ps_set (i := 7) sc_law.nd rfl (by first | exact Or.inl rfl | exact Or.inr rfl) (pe_lst (pa_cons (pe_op op_mod (pe_callTy call_int1 (by rfl) T.int (by decide +kernel) (pa_cons (pv 4) pa_nil)) pe_int) (pa_cons (pe_op op_mod (pe_callTy call_int1 (by rfl) T.int (by decide +kernel) (pa_cons (pe_op op_fdiv (pv 4) pe_int) pa_nil)) pe_int) (pa_cons (pe_op op_fdiv (pv 4) pe_int) pa_nil)))))
      (pss_cons (ps_set (i := 8) sc_law.nd rfl (by first | exact Or.inl rfl | exact Or.inr rfl) (pe_callD G_law_check_due (hr.mono (by decide)) (by rfl) (pa_cons (pe_op op_cat (pv 7) (pv 5)) pa_nil)))
      (pss_cons (ps_if (PW.pt (pw_or (pt_cmpR (op_neD hr.units) (pe_slice sl_list (pv 6) po_none (po_some pe_int)) (pv 7) (nomark _)) (pw_or (pt_cmpR (op_neD hr.units) (pe_slice sl_list (pv 6) (po_some pe_int) po_none) (pv 5) (nomark _)) (pw_or (pt_cmpR op_ne (pe_callD G_law_check_in (hr.mono (by decide)) (by rfl) (pa_cons (pv 6) pa_nil)) (pv 8) (nomark _)) (pw_or1 (pt_cmpR op_ne (pe_callB call_len_seq (by rfl) T.len (by decide +kernel) (pa_cons (pv 6) pa_nil)) (pe_op op_add (pv 4) pe_int) (nomark _)))))))
      (pss_one (ps_ret pe_bl))
      pss_nil)
      (pss_cons (ps_if (pt_cmpR op_gt (pv 4) pe_int (nomark _))
      (pss_cons (ps_set (i := 9) sc_law.nd rfl (by first | exact Or.inl rfl | exact Or.inr rfl) (pe_callD G_law_take (hr.mono (by decide)) (by rfl) (pa_cons (pv 3) (pa_cons (pv 4) pa_nil))))
      (pss_cons (ps_set (i := 10) sc_law.nd rfl (by first | exact Or.inl rfl | exact Or.inr rfl) (pe_op op_mod (pe_callTy call_int1 (by rfl) T.int (by decide +kernel) (pa_cons (pe_op op_add (pe_op op_add (pe_ix ix_list (pv 5) (pv 9) (fun _ _ => rfl)) pe_int) (pe_callD G_law_take (hr.mono (by decide)) (by rfl) (pa_cons (pv 3) (pa_cons pe_int pa_nil)))) pa_nil)) pe_int))
      (pss_cons (ps_set (i := 11) sc_law.nd rfl (by first | exact Or.inl rfl | exact Or.inr rfl) (pe_callD G_law_power (hr.mono (by decide)) (by rfl) (pa_cons (pe_op op_sub (pe_op op_sub (pv 4) pe_int) (pv 9)) pa_nil)))
      (pss_cons (ps_set (i := 12) sc_law.nd rfl (by first | exact Or.inl rfl | exact Or.inr rfl) (pe_callD G_law_check_in (hr.mono (by decide)) (by rfl) (pa_cons (pe_callD G_framed (hr.mono (by decide)) (by rfl) (pa_cons (pe_op op_cat (pe_op op_cat (pe_slice sl_list (pv 5) po_none (po_some (pv 9))) (pe_lst (pa_cons (pv 10) pa_nil))) (pe_slice sl_list (pv 5) (po_some (pe_op op_add (pv 9) pe_int)) po_none)) pa_nil)) pa_nil)))
      (pss_cons (ps_if (PW.pt (pw_or (pt_cmpR op_ne (pv 12) (pe_op op_mod (pe_callTy call_int1 (by rfl) T.int (by decide +kernel) (pa_cons (pe_op op_add (pv 8) (pe_op op_mul (pe_op op_sub (pv 10) (pe_ix ix_list (pv 5) (pv 9) (fun _ _ => rfl))) (pv 11))) pa_nil)) pe_int) (nomark _)) (pw_or1 (pt_cmpR op_eq (pv 12) (pv 8) (nomark _)))))
      (pss_one (ps_ret pe_bl))
      pss_nil)
      (pss_one (ps_if (pt_cmpR op_lt (pe_op op_add (pv 9) pe_int) (pv 4) (nomark _))
      (pss_cons (ps_set (i := 13) sc_law.nd rfl (by first | exact Or.inl rfl | exact Or.inr rfl) (pe_op op_cat (pe_op op_cat (pe_slice sl_list (pv 5) po_none (po_some (pv 9))) (pe_lst (pa_cons (pe_ix ix_list (pv 5) (pe_op op_add (pv 9) pe_int) (fun _ _ => rfl)) (pa_cons (pe_ix ix_list (pv 5) (pv 9) (fun _ _ => rfl)) pa_nil)))) (pe_slice sl_list (pv 5) (po_some (pe_op op_add (pv 9) pe_int)) po_none)))
      (pss_cons (ps_set (i := 11) sc_law.nd rfl (by first | exact Or.inl rfl | exact Or.inr rfl) (pe_callD G_law_power (hr.mono (by decide)) (by rfl) (pa_cons (pe_op op_sub (pe_op op_sub (pv 4) pe_int) (pv 9)) pa_nil)))
      (pss_cons (ps_set (i := 14) sc_law.nd rfl (by first | exact Or.inl rfl | exact Or.inr rfl) (pe_op op_mod (pe_callTy call_int1 (by rfl) T.int (by decide +kernel) (pa_cons (pe_op op_add (pv 8) (pe_op op_mul (pe_op op_mul pe_int (pe_op op_sub (pe_ix ix_list (pv 5) (pe_op op_add (pv 9) pe_int) (fun _ _ => rfl)) (pe_ix ix_list (pv 5) (pv 9) (fun _ _ => rfl)))) (pv 11))) pa_nil)) pe_int))
      (pss_one (ps_if (pt_cmpR op_ne (pe_callD G_law_check_in (hr.mono (by decide)) (by rfl) (pa_cons (pe_callD G_framed (hr.mono (by decide)) (by rfl) (pa_cons (pv 13) pa_nil)) pa_nil)) (pv 14) (nomark _))
      (pss_one (ps_ret pe_bl))
      pss_nil)))))
      pss_nil)))))))
      pss_nil)
      (pss_one (ps_if (pt_not (pt_val (pe_callD G_law_row_holds (hr.mono (by decide)) (by rfl) (pa_cons (pv 2) pa_nil))))
      (pss_one (ps_ret pe_bl))
      pss_nil))))))))))))
      (pss_one (ps_ret pe_bl)))
   , ?_⟩
  rintro ds M R ⟨ns, rfl, hR⟩
  walk_at "go"
  refine lp_range (n := 6) (fun i s' => ∃ M' : MM, s' = ⟨[some (.frz (ns.map .int)), none, none, none, none, none, none, none, none, none, none, none, none, none, none], M'⟩) ⟨_, rfl⟩ ?_ ?_
  · rintro i _ hi ⟨M1, rfl⟩
    refine eg_name (es_weak ?_)
    walk_at "dl"
    refine ⟨_, ns, _, rfl, .inr rfl, by omega, by omega, fun z => ?_⟩
    walk_at "dl"
    intro b hb
    have hb : M1 b = none := hb
    walk_at "dl"
    refine ⟨b, z, 9, rfl, updM_same, by decide, by decide, fun d1 n1 h1 h2 => ?_⟩
    walk_at "dl"
    refine ⟨b, n1, 901, rfl, updM_same, by decide, by decide, fun d2 n2 h3 h4 => ?_⟩
    walk_at "dl"
    refine ⟨b, n2, 2, rfl, updM_same, by decide, by decide, fun d3 n3 h5 h6 => ?_⟩
    walk_at "dl"
    obtain ⟨c, hc, hc0⟩ : ∃ c : Int, atI [D.int d1, D.int d2] d3 = some (.int c) ∧ 0 ≤ c ∧ c ≤ 900 := by
      have : d3 = 0 ∨ d3 = 1 := by omega
      rcases this with rfl | rfl
      · exact ⟨d1, rfl, by omega, by omega⟩
      · exact ⟨d2, rfl, by omega, by omega⟩
    refine at1 hc ?_
    obtain ⟨c, rfl⟩ : ∃ c' : Nat, c = (c' : Int) := ⟨c.toNat, by omega⟩
    walk_at "dl"
    refine ⟨b, n3, c, rfl, updM_same, by omega, fun os n4 hl ho => ?_⟩
    walk_at "dl"
    refine ⟨os, rfl, by omega, ?_⟩
    walk_at "dl"
    rw [head_low hc0]
    obtain ⟨f1, f2, f3⟩ := frame_cut os (by omega)
    rw [hl] at f1 f3
    rw [← List.map_append]
    refine ⟨_, rfl, ?_⟩
    walk_at "dl"
    rw [cutI_to _ (by decide)]
    refine sc ⟨cmpD_ints, cmpD_ints⟩ ?_
    walk_at "dl"
    refine br_eqD (n := 64) (by rw [show (3 : Int).toNat = 3 from rfl, f1]) cmpD_ints ?_
    walk_at "dl"
    rw [cutI_from _ (by decide)]
    refine sc ⟨cmpD_ints, cmpD_ints⟩ ?_
    walk_at "dl"
    refine br_eqD (n := 64) (by rw [show (7 : Int).toNat = 7 from rfl, f2]) cmpD_ints ?_
    walk_at "dl"
    refine ⟨_, rfl, by rw [frame_len]; omega, ?_⟩
    rw [f3]
    walk_at "dl"
    rw [List.length_map, frame_len, hl]
    walk_at "dm"
    have hM2 : updM (updM (updM (updM (updM M1 b (MO.lst [D.int z])) b (MO.lst [D.int n1])) b (MO.lst [D.int n2])) b (MO.lst [D.int n3])) b (MO.lst [D.int n4]) b = some (.lst [.int n4]) := updM_same
    generalize updM (updM (updM (updM (updM M1 b (MO.lst [D.int z])) b (MO.lst [D.int n1])) b (MO.lst [D.int n2])) b (MO.lst [D.int n3])) b (MO.lst [D.int n4]) = M2 at *
    generalize hck : chk (lowI (c : Int) 3 ++ os) = ck
    refine es_cutW (fun s' => ∃ M', s' = ⟨[some (.frz (ns.map .int)), none, some (.int z), none, none, none, none, none, none, none, none, none, none, none, none], M'⟩) ?_ ?_
    · walk_at "dl"
      refine br_dec (fun hc1 => ?_) (fun hc1 => ?_)
      · walk_at "dl"
        refine ⟨b, n4, c, rfl, hM2, by omega, by omega, fun p n5 h7 h8 => ?_⟩
        obtain ⟨p, rfl⟩ : ∃ p' : Nat, p = (p' : Int) := ⟨p.toNat, by omega⟩
        have hpl : p < os.length := by omega
        have hx := ho _ (List.getElem_mem hpl)
        have hos : os.take p ++ os[p] :: os.drop (p + 1) = os := by rw [← List.drop_eq_getElem_cons hpl, List.take_append_drop]
        have hat : (os.map D.int)[p]? = some (.int os[p]) := by rw [List.getElem?_map, List.getElem?_eq_getElem hpl]; rfl
        generalize os[p] = x at *
        walk_at "dl"
        refine at1n hat ?_
        walk_at "dl"
        refine ⟨b, n5, 255, rfl, updM_same, by decide, by decide, fun e n6 h9 h10 => ?_⟩
        walk_at "dl"
        generalize hv : (x + 1 + e) % 256 = v
        have hv0 : 0 ≤ v ∧ v < 256 := by omega
        have hvx : v ≠ x := by omega
        rw [show (c : Int) - 1 - (p : Int) = ((c - 1 - p : Nat) : Int) by omega]
        refine ⟨_, rfl, by omega, ?_⟩
        have hpw := pw_range (c - 1 - p)
        simp only [PR] at hpw
        walk_at "dl"
        rw [cutI_to _ (by omega), Int.toNat_natCast]
        refine sc (by simp only [List.length_map, List.length_take, List.length_cons, List.length_nil, sizeLine_eq]; omega) ?_
        walk_at "dl"
        rw [cutI_from _ (by omega), show ((p : Int) + 1).toNat = p + 1 by omega]
        refine sc (by simp only [List.length_append, List.length_map, List.length_take, List.length_drop, List.length_cons, List.length_nil, sizeLine_eq]; omega) ?_
        walk_at "dl"
        have hm1 : List.map D.int (os.take p) ++ [D.int v] ++ List.map D.int (os.drop (p + 1)) = List.map D.int (os.take p ++ v :: os.drop (p + 1)) := by simp
        have hl1 : (os.take p ++ v :: os.drop (p + 1)).length = c := by simp; omega
        rw [hm1]
        refine ⟨_, rfl, by omega, ?_⟩
        obtain ⟨_, _, g3⟩ := frame_cut (os.take p ++ v :: os.drop (p + 1)) (by omega)
        rw [hl1] at g3
        walk_at "dl"
        refine ⟨_, rfl, by rw [frame_len]; omega, ?_⟩
        rw [g3]
        have hc1' := check_one (lowI (c : Int) 3 ++ os.take p) (os.drop (p + 1)) x v
        have hne1 := check_ne (lowI (c : Int) 3 ++ os.take p) (os.drop (p + 1)) x v hx hv0 hvx
        rw [List.append_assoc, List.append_assoc, hos, hck, List.length_drop, hl, show c - (p + 1) = c - 1 - p by omega] at hc1'
        rw [List.append_assoc, List.append_assoc, hos, hck] at hne1
        generalize chk (lowI (c : Int) 3 ++ (os.take p ++ v :: os.drop (p + 1))) = told at *
        walk_at "dl"
        refine at1n hat ?_
        walk_at "dl"
        refine br_dec (fun hp2 => ?_) (fun hp2 => ?_)
        · have hp2l : p + 1 < os.length := by omega
          have hat2 : (os.map D.int)[p + 1]? = some (.int os[p + 1]) := by rw [List.getElem?_map, List.getElem?_eq_getElem hp2l]; rfl
          have hos2 : os.take p ++ x :: os[p + 1] :: os.drop (p + 1 + 1) = os := by rw [← List.drop_eq_getElem_cons hp2l, hos]
          generalize os[p + 1] = y at *
          walk_at "dl"
          refine at1o (p + 1) (by omega) hat2 ?_
          walk_at "dl"
          refine at1n hat ?_
          walk_at "dl"
          rw [cutI_to _ (by omega), Int.toNat_natCast]
          refine sc (by simp only [List.length_map, List.length_take, List.length_cons, List.length_nil, sizeLine_eq]; omega) ?_
          walk_at "dl"
          rw [cutI_from _ (by omega), show ((p : Int) + 2).toNat = p + 1 + 1 by omega]
          refine sc (by simp only [List.length_append, List.length_map, List.length_take, List.length_drop, List.length_cons, List.length_nil, sizeLine_eq]; omega) ?_
          walk_at "dl"
          have hm2 : List.map D.int (os.take p) ++ [D.int y, D.int x] ++ List.map D.int (os.drop (p + 1 + 1)) = List.map D.int (os.take p ++ y :: x :: os.drop (p + 1 + 1)) := by simp
          have hl2 : (os.take p ++ y :: x :: os.drop (p + 1 + 1)).length = c := by simp; omega
          rw [hm2, show (c : Int) - 2 - (p : Int) = ((c - 2 - p : Nat) : Int) by omega]
          refine ⟨_, rfl, by omega, ?_⟩
          have hpw2 := pw_range (c - 2 - p)
          simp only [PR] at hpw2
          have hc2' := check_two (lowI (c : Int) 3 ++ os.take p) (os.drop (p + 1 + 1)) x y
          rw [List.append_assoc, List.append_assoc, hos2, hck, List.length_drop, hl, show c - (p + 1 + 1) = c - 2 - p by omega] at hc2'
          obtain ⟨_, _, g4⟩ := frame_cut (os.take p ++ y :: x :: os.drop (p + 1 + 1)) (by omega)
          rw [hl2] at g4
          walk_at "dl"
          refine at1o (p + 1) (by omega) hat2 ?_
          walk_at "dl"
          refine at1n hat ?_
          walk_at "dl"
          refine ⟨_, rfl, by omega, ?_⟩
          walk_at "dl"
          refine ⟨_, rfl, by rw [frame_len]; omega, ?_⟩
          rw [g4]
          walk_at "dl"
          exact weak_any (by simp [WkS])
        · walk_at "dl"
          exact weak_any (by simp [WkS])
      · walk_at "dl"
        exact weak_any (by simp [WkS])
    · rintro _ ⟨M3, rfl⟩
      walk_at "dl"
      refine ⟨z, rfl, fun M4 _ => ?_⟩
      walk_at "dl"
      exact weak_any (by simp [WkS])
  · rintro _ ⟨M1, rfl⟩
    walk_at "dl"
    exact hR _
end
end K00

end

section
open PySem L2 Evl DL
namespace K00
theorem law_T (ns : List Int) (hl : ns.length ≤ 63) (R : D → MM → Prop) (h : ∀ M', R (.bl true) M') : T_law [.frz (ns.map .int)] (fun _ => none) R := ⟨ns, rfl, h⟩
theorem all_mk {l : PySem.W.OpenLaw} {w : World} {K : PySem.W.Frag} {h : Heap} {mg : Str → Option Value} {fa f0 f1 f2 f3 f4 f5 f6 f7 f8 f9 f10 f11 f12 : Addr} (X : K.In h) (G : h.Ns mainGlobals mg) (hfa : mg "law" = some (.ref fa))
    {od0 an0 : Option Addr} {sl0 : Array (Option Value)} {oc0 kV0 dc0 pm0 cd0 ct0 : Value}
    (a0 : PySem.W.nsIn K mainGlobals "low_octets" = some (some (.ref f0))) (l0 : K.lookup f0 = some ⟨oc0, od0, .func (PySem.W.fnOf "low_octets" "low_octets" (defArgs s_low_octets) (defBody s_low_octets) (defScope s_low_octets) .none kV0 dc0 pm0 an0 cd0 ct0), sl0⟩) (c0 : PySem.W.codeIn K cd0 "low_octets" = true) (k0 : PySem.W.keepIn K (.ref f0) = true)
    {od1 an1 : Option Addr} {sl1 : Array (Option Value)} {oc1 kV1 dc1 pm1 cd1 ct1 : Value}
    (a1 : PySem.W.nsIn K mainGlobals "number_of" = some (some (.ref f1))) (l1 : K.lookup f1 = some ⟨oc1, od1, .func (PySem.W.fnOf "number_of" "number_of" (defArgs s_number_of) (defBody s_number_of) (defScope s_number_of) .none kV1 dc1 pm1 an1 cd1 ct1), sl1⟩) (c1 : PySem.W.codeIn K cd1 "number_of" = true) (k1 : PySem.W.keepIn K (.ref f1) = true)
    {od2 an2 : Option Addr} {sl2 : Array (Option Value)} {oc2 kV2 dc2 pm2 cd2 ct2 : Value}
    (a2 : PySem.W.nsIn K mainGlobals "check_of" = some (some (.ref f2))) (l2 : K.lookup f2 = some ⟨oc2, od2, .func (PySem.W.fnOf "check_of" "check_of" (defArgs s_check_of) (defBody s_check_of) (defScope s_check_of) .none kV2 dc2 pm2 an2 cd2 ct2), sl2⟩) (c2 : PySem.W.codeIn K cd2 "check_of" = true) (k2 : PySem.W.keepIn K (.ref f2) = true)
    {od3 an3 : Option Addr} {sl3 : Array (Option Value)} {oc3 kV3 dc3 pm3 cd3 ct3 : Value}
    (a3 : PySem.W.nsIn K mainGlobals "framed" = some (some (.ref f3))) (l3 : K.lookup f3 = some ⟨oc3, od3, .func (PySem.W.fnOf "framed" "framed" (defArgs s_framed) (defBody s_framed) (defScope s_framed) .none kV3 dc3 pm3 an3 cd3 ct3), sl3⟩) (c3 : PySem.W.codeIn K cd3 "framed" = true) (k3 : PySem.W.keepIn K (.ref f3) = true)
    {od4 an4 : Option Addr} {sl4 : Array (Option Value)} {oc4 kV4 dc4 pm4 cd4 ct4 : Value}
    (a4 : PySem.W.nsIn K mainGlobals "payloads_in" = some (some (.ref f4))) (l4 : K.lookup f4 = some ⟨oc4, od4, .func (PySem.W.fnOf "payloads_in" "payloads_in" (defArgs s_payloads_in) (defBody s_payloads_in) (defScope s_payloads_in) .none kV4 dc4 pm4 an4 cd4 ct4), sl4⟩) (c4 : PySem.W.codeIn K cd4 "payloads_in" = true) (k4 : PySem.W.keepIn K (.ref f4) = true)
    {od5 an5 : Option Addr} {sl5 : Array (Option Value)} {oc5 kV5 dc5 pm5 cd5 ct5 : Value}
    (a5 : PySem.W.nsIn K mainGlobals "_law_number" = some (some (.ref f5))) (l5 : K.lookup f5 = some ⟨oc5, od5, .func (PySem.W.fnOf "_law_number" "_law_number" (defArgs s_law_number) (defBody s_law_number) (defScope s_law_number) .none kV5 dc5 pm5 an5 cd5 ct5), sl5⟩) (c5 : PySem.W.codeIn K cd5 "_law_number" = true) (k5 : PySem.W.keepIn K (.ref f5) = true)
    {od6 an6 : Option Addr} {sl6 : Array (Option Value)} {oc6 kV6 dc6 pm6 cd6 ct6 : Value}
    (a6 : PySem.W.nsIn K mainGlobals "_law_take" = some (some (.ref f6))) (l6 : K.lookup f6 = some ⟨oc6, od6, .func (PySem.W.fnOf "_law_take" "_law_take" (defArgs s_law_take) (defBody s_law_take) (defScope s_law_take) .none kV6 dc6 pm6 an6 cd6 ct6), sl6⟩) (c6 : PySem.W.codeIn K cd6 "_law_take" = true) (k6 : PySem.W.keepIn K (.ref f6) = true)
    {od7 an7 : Option Addr} {sl7 : Array (Option Value)} {oc7 kV7 dc7 pm7 cd7 ct7 : Value}
    (a7 : PySem.W.nsIn K mainGlobals "_law_octets_by" = some (some (.ref f7))) (l7 : K.lookup f7 = some ⟨oc7, od7, .func (PySem.W.fnOf "_law_octets_by" "_law_octets_by" (defArgs s_law_octets_by) (defBody s_law_octets_by) (defScope s_law_octets_by) .none kV7 dc7 pm7 an7 cd7 ct7), sl7⟩) (c7 : PySem.W.codeIn K cd7 "_law_octets_by" = true) (k7 : PySem.W.keepIn K (.ref f7) = true)
    {od8 an8 : Option Addr} {sl8 : Array (Option Value)} {oc8 kV8 dc8 pm8 cd8 ct8 : Value}
    (a8 : PySem.W.nsIn K mainGlobals "_law_check_due" = some (some (.ref f8))) (l8 : K.lookup f8 = some ⟨oc8, od8, .func (PySem.W.fnOf "_law_check_due" "_law_check_due" (defArgs s_law_check_due) (defBody s_law_check_due) (defScope s_law_check_due) .none kV8 dc8 pm8 an8 cd8 ct8), sl8⟩) (c8 : PySem.W.codeIn K cd8 "_law_check_due" = true) (k8 : PySem.W.keepIn K (.ref f8) = true)
    {od9 an9 : Option Addr} {sl9 : Array (Option Value)} {oc9 kV9 dc9 pm9 cd9 ct9 : Value}
    (a9 : PySem.W.nsIn K mainGlobals "_law_check_in" = some (some (.ref f9))) (l9 : K.lookup f9 = some ⟨oc9, od9, .func (PySem.W.fnOf "_law_check_in" "_law_check_in" (defArgs s_law_check_in) (defBody s_law_check_in) (defScope s_law_check_in) .none kV9 dc9 pm9 an9 cd9 ct9), sl9⟩) (c9 : PySem.W.codeIn K cd9 "_law_check_in" = true) (k9 : PySem.W.keepIn K (.ref f9) = true)
    {od10 an10 : Option Addr} {sl10 : Array (Option Value)} {oc10 kV10 dc10 pm10 cd10 ct10 : Value}
    (a10 : PySem.W.nsIn K mainGlobals "_law_power" = some (some (.ref f10))) (l10 : K.lookup f10 = some ⟨oc10, od10, .func (PySem.W.fnOf "_law_power" "_law_power" (defArgs s_law_power) (defBody s_law_power) (defScope s_law_power) .none kV10 dc10 pm10 an10 cd10 ct10), sl10⟩) (c10 : PySem.W.codeIn K cd10 "_law_power" = true) (k10 : PySem.W.keepIn K (.ref f10) = true)
    {od11 an11 : Option Addr} {sl11 : Array (Option Value)} {oc11 kV11 dc11 pm11 cd11 ct11 : Value}
    (a11 : PySem.W.nsIn K mainGlobals "_law_row_holds" = some (some (.ref f11))) (l11 : K.lookup f11 = some ⟨oc11, od11, .func (PySem.W.fnOf "_law_row_holds" "_law_row_holds" (defArgs s_law_row_holds) (defBody s_law_row_holds) (defScope s_law_row_holds) .none kV11 dc11 pm11 an11 cd11 ct11), sl11⟩) (c11 : PySem.W.codeIn K cd11 "_law_row_holds" = true) (k11 : PySem.W.keepIn K (.ref f11) = true)
    {od12 an12 : Option Addr} {sl12 : Array (Option Value)} {oc12 kV12 dc12 pm12 cd12 ct12 : Value}
    (a12 : PySem.W.nsIn K mainGlobals "law" = some (some (.ref f12))) (l12 : K.lookup f12 = some ⟨oc12, od12, .func (PySem.W.fnOf "law" "law" (defArgs s_law) (defBody s_law) (defScope s_law) .none kV12 dc12 pm12 an12 cd12 ct12), sl12⟩) (c12 : PySem.W.codeIn K cd12 "law" = true) (k12 : PySem.W.keepIn K (.ref f12) = true)
    (z_len : PySem.W.nsIn K mainGlobals "len" = some none)
    (z_int : PySem.W.nsIn K mainGlobals "int" = some none)
    (z_list : PySem.W.nsIn K mainGlobals "list" = some none)
    (z_range : PySem.W.nsIn K mainGlobals "range" = some none)
    (z_reversed : PySem.W.nsIn K mainGlobals "reversed" = some none)
    {t_PRIME : Tok} (g_PRIME : PySem.W.nsIn K mainGlobals "PRIME" = some (some (.int 4294967291 t_PRIME)))
    {t_HEAD : Tok} (g_HEAD : PySem.W.nsIn K mainGlobals "HEAD" = some (some (.int 7 t_HEAD)))
    : ∃ fd : FuncData, (∀ (s : Shared) (v : Value), BindsTo s fd ⟨[v], []⟩ [("script", v)]) ∧ ∀ base : Heap, K.In base → base.Ns mainGlobals mg → FnOk l.prog w K mg base CX0 4 fa fd ["script"] (spOf K T_law) := by
  have e := hfa.symm.trans (PySem.W.mg_of X G a12)
  cases e
  have T : Tx mg := ⟨PySem.W.mg_none_of X G z_len, PySem.W.mg_none_of X G z_int, PySem.W.mg_none_of X G z_list, PySem.W.mg_none_of X G z_range, PySem.W.mg_none_of X G z_reversed, ⟨_, PySem.W.mg_of X G g_PRIME, ⟨_, rfl⟩⟩, ⟨_, PySem.W.mg_of X G g_HEAD, ⟨_, rfl⟩⟩⟩
  have F_low_octets : Dl K mg "low_octets" s_low_octets := dl_mk X G a0 l0 c0 k0
  have F_number_of : Dl K mg "number_of" s_number_of := dl_mk X G a1 l1 c1 k1
  have F_check_of : Dl K mg "check_of" s_check_of := dl_mk X G a2 l2 c2 k2
  have F_framed : Dl K mg "framed" s_framed := dl_mk X G a3 l3 c3 k3
  have F_payloads_in : Dl K mg "payloads_in" s_payloads_in := dl_mk X G a4 l4 c4 k4
  have F_law_number : Dl K mg "_law_number" s_law_number := dl_mk X G a5 l5 c5 k5
  have F_law_take : Dl K mg "_law_take" s_law_take := dl_mk X G a6 l6 c6 k6
  have F_law_octets_by : Dl K mg "_law_octets_by" s_law_octets_by := dl_mk X G a7 l7 c7 k7
  have F_law_check_due : Dl K mg "_law_check_due" s_law_check_due := dl_mk X G a8 l8 c8 k8
  have F_law_check_in : Dl K mg "_law_check_in" s_law_check_in := dl_mk X G a9 l9 c9 k9
  have F_law_power : Dl K mg "_law_power" s_law_power := dl_mk X G a10 l10 c10 k10
  have F_law_row_holds : Dl K mg "_law_row_holds" s_law_row_holds := dl_mk X G a11 l11 c11 k11
  have FL := fun_mk (st := s_law) l12 c12 k12
  refine ⟨PySem.W.fnOf "law" "law" (defArgs s_law) (defBody s_law) (defScope s_law) .none kV12 dc12 pm12 an12 cd12 ct12, fun s v => .of_eq rfl, fun base _ _ => ?_⟩
  · have Glo := d_low_octets (P := l.prog) (w := w) (base := base) T F_low_octets
    have Gno := d_number_of (P := l.prog) (w := w) (base := base) T F_number_of
    have Gco := d_check_of (P := l.prog) (w := w) (base := base) T F_check_of
    have Gfr := d_framed T F_framed Glo Gco
    have Gpi := d_payloads_in T F_payloads_in Gno Gco
    have Gnu := d_law_number (P := l.prog) (w := w) (base := base) T F_law_number
    have Gta := d_law_take (P := l.prog) (w := w) (base := base) T F_law_take
    have Gob := d_law_octets_by T F_law_octets_by Gta
    have Gcd := d_law_check_due (P := l.prog) (w := w) (base := base) T F_law_check_due
    have Gci := d_law_check_in (P := l.prog) (w := w) (base := base) T F_law_check_in
    have Gpo := d_law_power (P := l.prog) (w := w) (base := base) T F_law_power
    have Grh := d_law_row_holds T F_law_row_holds Gnu Gta Gob Gfr Gpi
    exact ok_law T FL Gnu Gta Gob Gfr Grh Gcd Gci Gpo
theorem walk {l : PySem.W.OpenLaw} {q : Program} {loose : List Str} {XP : (Str → Option Value) → Heap → Prop} {YP : World → Heap → Prop} {d : DefRec} {K : Params → PySem.W.Frag} (hn : l.most = some 63) (hdf : d.params.defaults = [])
    (hY : ∀ (w : World) (h : Heap), YP w h → (K w.params).In h)
    (F : ∀ (w : World) (mg : Str → Option Value) (fa : Addr) (h : Heap), (K w.params).In h → h.Ns mainGlobals mg → mg d.name = some (.ref fa) →
      ∃ fd : FuncData, (∀ (s : Shared) (u : Value), BindsTo s fd ⟨[u], []⟩ [("script", u)]) ∧ ∀ base : Heap, (K w.params).In base → base.Ns mainGlobals mg → FnOk l.prog w (K w.params) mg base CX0 4 fa fd ["script"] (spOf (K w.params) T_law)) :
    PySem.W.WalkO q loose XP YP l.row.toRowW d [] (fun f vs => PySem.call f vs) :=
  L2.walk_of (n := 63) (k := 4) (x := "script") (CX := fun _ => CX0) (sp := fun w => spOf (K w.params) T_law) hn (by decide) hdf ⟨rfl, by decide, by decide⟩ hY F (fun _ _ a ns hl _ hS => law_sp hS fun R h => law_T ns hl R h) fun _ _ _ _ _ z => z
end K00
end
open PySem PySem.W PyProof.Rows
set_option maxRecDepth 100000 in
set_option maxHeartbeats 0 in
theorem PySem.Challenge.cw_herefrom_k00_checks_of_frames_tell_one_c_holds : PySem.Challenge.rw_herefrom_k00_checks_of_frames_tell_one_c.Holds := by
  w_on; o_law; k_head; (case hw => w_witness2)
  k_fill
  refine K00.walk (l := PySem.Challenge.rw_herefrom_k00_checks_of_frames_tell_one_c) rfl rfl (fun w h Y => PySem.W.kIn_of Y) ?F
  case F =>
    intro w mg fa h KX G hmg
    refine' K00.all_mk KX G hmg ?a0 ?l0 ?c0 ?k0 ?a1 ?l1 ?c1 ?k1 ?a2 ?l2 ?c2 ?k2 ?a3 ?l3 ?c3 ?k3 ?a4 ?l4 ?c4 ?k4 ?a5 ?l5 ?c5 ?k5 ?a6 ?l6 ?c6 ?k6 ?a7 ?l7 ?c7 ?k7 ?a8 ?l8 ?c8 ?k8 ?a9 ?l9 ?c9 ?k9 ?a10 ?l10 ?c10 ?k10 ?a11 ?l11 ?c11 ?k11 ?a12 ?l12 ?c12 ?k12 ?z_len ?z_int ?z_list ?z_range ?z_reversed ?g_PRIME ?g_HEAD
    (case a0 => k_is)
    (case l0 => k_is)
    (case c0 => k_is)
    (case k0 => k_is)
    (case a1 => k_is)
    (case l1 => k_is)
    (case c1 => k_is)
    (case k1 => k_is)
    (case a2 => k_is)
    (case l2 => k_is)
    (case c2 => k_is)
    (case k2 => k_is)
    (case a3 => k_is)
    (case l3 => k_is)
    (case c3 => k_is)
    (case k3 => k_is)
    (case a4 => k_is)
    (case l4 => k_is)
    (case c4 => k_is)
    (case k4 => k_is)
    (case a5 => k_is)
    (case l5 => k_is)
    (case c5 => k_is)
    (case k5 => k_is)
    (case a6 => k_is)
    (case l6 => k_is)
    (case c6 => k_is)
    (case k6 => k_is)
    (case a7 => k_is)
    (case l7 => k_is)
    (case c7 => k_is)
    (case k7 => k_is)
    (case a8 => k_is)
    (case l8 => k_is)
    (case c8 => k_is)
    (case k8 => k_is)
    (case a9 => k_is)
    (case l9 => k_is)
    (case c9 => k_is)
    (case k9 => k_is)
    (case a10 => k_is)
    (case l10 => k_is)
    (case c10 => k_is)
    (case k10 => k_is)
    (case a11 => k_is)
    (case l11 => k_is)
    (case c11 => k_is)
    (case k11 => k_is)
    (case a12 => k_is)
    (case l12 => k_is)
    (case c12 => k_is)
    (case k12 => k_is)
    (case z_len => k_is)
    (case z_int => k_is)
    (case z_list => k_is)
    (case z_range => k_is)
    (case z_reversed => k_is)
    (case g_PRIME => k_is)
    (case g_HEAD => k_is)
#print axioms PySem.Challenge.cw_herefrom_k00_checks_of_frames_tell_one_c_holds

