import PyProof.Rows.All
import Wide.All
import OpenK.AllK
import Wide.FinOn
import HandS.Conv
import HandS.Evl
import HandS.ExcIs
import HandS.ForExc
import HandS.ForMost
import HandS.IsInst
import HandS.Iter
import HandS.New
import HandS.NoneIn
import HandS.Rev
import HandS.RevTup
import HandS.Text
import HandS.TryOnly
import HandS.Wide
import HandS.WordsExc
import KE.DataCmp
import KE.KDictList
import PyProof.Rows.StrFin3
import PySem.Challenge.RW_herefrom_k01_packs_of_all_sizes
set_option Elab.async false
set_option maxRecDepth 100000
set_option maxHeartbeats 1000000
/-! DL: readings over plain data. A state is the slots' data and the mutable objects' data; all else is frozen. -/
namespace DL
open PySem L2 Evl

/-- plain data; oth: a raw value (an address) -/
inductive D where
  | non | bl (b : Bool) | int (i : Int) | str (x : Str) | lst (xs : List D) | frz (xs : List D) | tup (xs : List D) | oth (v : V)
abbrev D.adr (a : Addr) : D := .oth (.ref a)
def ofV : V → D
  | .non => .non
  | .bl b => .bl b
  | .int i => .int i
  | .str x => .str x
  | v => .oth v
mutual
/-- v stands for d, in the frozen heap S -/
def Rp (K : PySem.W.Frag) (S : Hp) : D → V → Prop
  | .non, v => v = .non
  | .bl b, v => v = .bl b
  | .int i, v => v = .int i
  | .str x, v => v = .str x
  | .lst ds, v => ∃ a xs, v = .ref a ∧ S a = some (.lst xs) ∧ RpL K S ds xs
  | .frz ds, v => ∃ a xs, v = .ref a ∧ SqL K S a xs ∧ RpL K S ds xs
  | .tup ds, v => ∃ a xs, v = .ref a ∧ SqT K S a xs ∧ RpL K S ds xs
  | .oth u, v => v = u
def RpL (K : PySem.W.Frag) (S : Hp) : List D → List V → Prop
  | [], vs => vs = []
  | d :: ds, vs => ∃ v r, vs = v :: r ∧ Rp K S d v ∧ RpL K S ds r
end
section
variable {K : PySem.W.Frag} {S S' H H' : Hp}
mutual
theorem Rp.mono (e : Ex S S') : ∀ (d : D) (v : V), Rp K S d v → Rp K S' d v
  | .non, v, h => by rw [Rp] at h ⊢; exact h
  | .bl b, v, h => by rw [Rp] at h ⊢; exact h
  | .int i, v, h => by rw [Rp] at h ⊢; exact h
  | .str x, v, h => by rw [Rp] at h ⊢; exact h
  | .lst ds, v, h => by
    rw [Rp] at h ⊢
    obtain ⟨a, xs, e1, h1, h2⟩ := h
    exact ⟨a, xs, e1, e _ _ h1, RpL.mono e ds xs h2⟩
  | .frz ds, v, h => by
    rw [Rp] at h ⊢
    obtain ⟨a, xs, e1, h1, h2⟩ := h
    exact ⟨a, xs, e1, ex_l e h1, RpL.mono e ds xs h2⟩
  | .tup ds, v, h => by
    rw [Rp] at h ⊢
    obtain ⟨a, xs, e1, h1, h2⟩ := h
    exact ⟨a, xs, e1, ex_t e h1, RpL.mono e ds xs h2⟩
  | .oth u, v, h => by rw [Rp] at h ⊢; exact h
theorem RpL.mono (e : Ex S S') : ∀ (ds : List D) (vs : List V), RpL K S ds vs → RpL K S' ds vs
  | [], vs, h => by rw [RpL] at h ⊢; exact h
  | d :: ds, vs, h => by
    rw [RpL] at h ⊢
    obtain ⟨v, r, e1, h1, h2⟩ := h
    exact ⟨v, r, e1, Rp.mono e d v h1, RpL.mono e ds r h2⟩
end
theorem RpL.nil : RpL K S [] [] := by rw [RpL]
theorem RpL.cons {d : D} {ds : List D} {v : V} {vs : List V} (h : Rp K S d v) (r : RpL K S ds vs) : RpL K S (d :: ds) (v :: vs) := by
  rw [RpL]
  exact ⟨v, vs, rfl, h, r⟩
theorem RpL.uncons {d : D} {ds : List D} {v : V} {vs : List V} (h : RpL K S (d :: ds) (v :: vs)) : Rp K S d v ∧ RpL K S ds vs := by
  rw [RpL] at h
  obtain ⟨u, r, e, h1, h2⟩ := h
  obtain ⟨rfl, rfl⟩ := List.cons.inj e
  exact ⟨h1, h2⟩
theorem RpL.nil_of {vs : List V} (h : RpL K S [] vs) : vs = [] := by
  rw [RpL] at h
  exact h
theorem RpL.cons_of {d : D} {ds : List D} {vs : List V} (h : RpL K S (d :: ds) vs) : ∃ v r, vs = v :: r ∧ Rp K S d v ∧ RpL K S ds r := by
  rw [RpL] at h
  exact h
theorem RpL.length : ∀ {ds : List D} {vs : List V}, RpL K S ds vs → ds.length = vs.length
  | [], vs, h => by rw [h.nil_of]; rfl
  | d :: ds, vs, h => by
    obtain ⟨v, r, rfl, _, h2⟩ := h.cons_of
    simp [RpL.length h2]
theorem RpL.get : ∀ {ds : List D} {vs : List V} {i : Nat} {v : V}, RpL K S ds vs → vs[i]? = some v → ∃ d, ds[i]? = some d ∧ Rp K S d v
  | [], vs, i, v, h, e => by rw [h.nil_of] at e; simp at e
  | d :: ds, vs, 0, v, h, e => by
    obtain ⟨u, r, rfl, h1, h2⟩ := h.cons_of
    simp at e
    subst e
    exact ⟨d, rfl, h1⟩
  | d :: ds, vs, i + 1, v, h, e => by
    obtain ⟨u, r, rfl, h1, h2⟩ := h.cons_of
    obtain ⟨d', e', h'⟩ := RpL.get (i := i) h2 (by simpa using e)
    exact ⟨d', by simpa using e', h'⟩
theorem RpL.getD : ∀ {ds : List D} {vs : List V} {i : Nat} {d : D}, RpL K S ds vs → ds[i]? = some d → ∃ v, vs[i]? = some v ∧ Rp K S d v
  | [], vs, i, d, h, e => by simp at e
  | d :: ds, vs, 0, d', h, e => by
    obtain ⟨u, r, rfl, h1, h2⟩ := h.cons_of
    simp at e
    subst e
    exact ⟨u, rfl, h1⟩
  | d :: ds, vs, i + 1, d', h, e => by
    obtain ⟨u, r, rfl, h1, h2⟩ := h.cons_of
    obtain ⟨v', e', h'⟩ := RpL.getD (i := i) h2 (by simpa using e)
    exact ⟨v', by simpa using e', h'⟩
theorem RpL.append : ∀ {ds es : List D} {vs us : List V}, RpL K S ds vs → RpL K S es us → RpL K S (ds ++ es) (vs ++ us)
  | [], es, vs, us, h, k => by rw [h.nil_of]; exact k
  | d :: ds, es, vs, us, h, k => by
    obtain ⟨u, r, rfl, h1, h2⟩ := h.cons_of
    exact RpL.cons h1 (RpL.append h2 k)
theorem RpL.take : ∀ (n : Nat) {ds : List D} {vs : List V}, RpL K S ds vs → RpL K S (ds.take n) (vs.take n)
  | 0, ds, vs, h => by simp only [List.take_zero]; exact RpL.nil
  | n + 1, [], vs, h => by rw [h.nil_of]; exact RpL.nil
  | n + 1, d :: ds, vs, h => by
    obtain ⟨u, r, rfl, h1, h2⟩ := h.cons_of
    exact RpL.cons h1 (RpL.take n h2)
theorem RpL.drop : ∀ (n : Nat) {ds : List D} {vs : List V}, RpL K S ds vs → RpL K S (ds.drop n) (vs.drop n)
  | 0, ds, vs, h => by simp only [List.drop_zero]; exact h
  | n + 1, [], vs, h => by rw [h.nil_of]; exact RpL.nil
  | n + 1, d :: ds, vs, h => by
    obtain ⟨u, r, rfl, h1, h2⟩ := h.cons_of
    simp only [List.drop_succ_cons]
    exact RpL.drop n h2
theorem RpL.set : ∀ (n : Nat) {d : D} {v : V} {ds : List D} {vs : List V}, Rp K S d v → RpL K S ds vs → RpL K S (ds.set n d) (vs.set n v)
  | n, d, v, [], vs, g, h => by rw [h.nil_of]; exact RpL.nil
  | 0, d, v, d' :: ds, vs, g, h => by
    obtain ⟨u, r, rfl, h1, h2⟩ := h.cons_of
    exact RpL.cons g h2
  | n + 1, d, v, d' :: ds, vs, g, h => by
    obtain ⟨u, r, rfl, h1, h2⟩ := h.cons_of
    exact RpL.cons h1 (RpL.set n g h2)
theorem RpL.dropLast {ds : List D} {vs : List V} (h : RpL K S ds vs) : RpL K S ds.dropLast vs.dropLast := by
  rw [List.dropLast_eq_take, List.dropLast_eq_take, h.length]
  exact h.take _
theorem RpL.reverse : ∀ {ds : List D} {vs : List V}, RpL K S ds vs → RpL K S ds.reverse vs.reverse
  | [], vs, h => by rw [h.nil_of]; exact RpL.nil
  | d :: ds, vs, h => by
    obtain ⟨u, r, rfl, h1, h2⟩ := h.cons_of
    rw [List.reverse_cons, List.reverse_cons]
    exact RpL.append (RpL.reverse h2) (RpL.cons h1 RpL.nil)
theorem Rp.ofV (v : V) : Rp K S (ofV v) v := by
  cases v <;> simp only [DL.ofV, Rp]
theorem Rp.int {i : Int} : Rp K S (.int i) (.int i) := by rw [Rp]
theorem Rp.bl {i : Bool} : Rp K S (.bl i) (.bl i) := by rw [Rp]
theorem Rp.str {i : Str} : Rp K S (.str i) (.str i) := by rw [Rp]
theorem Rp.non : Rp K S .non .non := by rw [Rp]
theorem Rp.oth {v : V} : Rp K S (.oth v) v := by rw [Rp]
theorem Rp.int_of {i : Int} {v : V} (h : Rp K S (.int i) v) : v = .int i := by rw [Rp] at h; exact h
theorem Rp.bl_of {i : Bool} {v : V} (h : Rp K S (.bl i) v) : v = .bl i := by rw [Rp] at h; exact h
theorem Rp.str_of {i : Str} {v : V} (h : Rp K S (.str i) v) : v = .str i := by rw [Rp] at h; exact h
theorem Rp.non_of {v : V} (h : Rp K S .non v) : v = .non := by rw [Rp] at h; exact h
theorem Rp.oth_of {u v : V} (h : Rp K S (.oth u) v) : v = u := by rw [Rp] at h; exact h
theorem Rp.lst {a : Addr} {xs : List V} {ds : List D} (h : S a = some (.lst xs)) (r : RpL K S ds xs) : Rp K S (.lst ds) (.ref a) := by
  rw [Rp]
  exact ⟨a, xs, rfl, h, r⟩
theorem Rp.lst_of {v : V} {ds : List D} (h : Rp K S (.lst ds) v) : ∃ a xs, v = .ref a ∧ S a = some (.lst xs) ∧ RpL K S ds xs := by rw [Rp] at h; exact h
theorem Rp.tup {a : Addr} {xs : List V} {ds : List D} (h : SqT K S a xs) (r : RpL K S ds xs) : Rp K S (.tup ds) (.ref a) := by
  rw [Rp]
  exact ⟨a, xs, rfl, h, r⟩
theorem Rp.tup_of {v : V} {ds : List D} (h : Rp K S (.tup ds) v) : ∃ a xs, v = .ref a ∧ SqT K S a xs ∧ RpL K S ds xs := by rw [Rp] at h; exact h
theorem Rp.frz {a : Addr} {xs : List V} {ds : List D} (h : SqL K S a xs) (r : RpL K S ds xs) : Rp K S (.frz ds) (.ref a) := by
  rw [Rp]
  exact ⟨a, xs, rfl, h, r⟩
theorem Rp.frz_of {v : V} {ds : List D} (h : Rp K S (.frz ds) v) : ∃ a xs, v = .ref a ∧ SqL K S a xs ∧ RpL K S ds xs := by rw [Rp] at h; exact h
end
/-- a list that is read -/
def asL : D → Option (List D)
  | .lst ds => some ds
  | .frz ds => some ds
  | _ => none
theorem Rp.asL_of {K : PySem.W.Frag} {S : Hp} {d : D} {v : V} {ds : List D} (h : Rp K S d v) (e : asL d = some ds) : ∃ a xs, v = .ref a ∧ SqL K S a xs ∧ RpL K S ds xs := by
  cases d <;> simp only [asL, Option.some.injEq, reduceCtorEq] at e
  · subst e
    obtain ⟨a, xs, e1, h1, h2⟩ := h.lst_of
    exact ⟨a, xs, e1, SqL.of h1, h2⟩
  · subst e
    exact h.frz_of

/-! ### mutable objects -/
inductive MO where
  | lst (xs : List D)
abbrev MM := Addr → Option MO
def updM (M : MM) (a : Addr) (o : MO) : MM := fun b => if b = a then some o else M b
def delM (M : MM) (a : Addr) : MM := fun b => if b = a then none else M b
theorem updM_same {M : MM} {a : Addr} {o : MO} : updM M a o a = some o := by unfold updM; rw [if_pos rfl]
theorem updM_ne {M : MM} {a b : Addr} {o : MO} (h : b ≠ a) : updM M a o b = M b := by unfold updM; rw [if_neg h]
theorem updM_get {M : MM} {a b : Addr} {o u : MO} (h : b ≠ a) (e : M b = some u) : updM M a o b = some u := (updM_ne h).trans e
theorem delM_get {M : MM} {a b : Addr} {u : MO} (h : b ≠ a) (e : M b = some u) : delM M a b = some u := by unfold delM; rw [if_neg h]; exact e
theorem updM_updM {M : MM} {a : Addr} {o u : MO} : updM (updM M a o) a u = updM M a u := by
  funext b; unfold updM; split <;> rfl
theorem delM_updM {M : MM} {a : Addr} {o : MO} (h : M a = none) : delM (updM M a o) a = M := by
  funext b; unfold delM updM; by_cases e : b = a
  · rw [if_pos e, e, h]
  · rw [if_neg e, if_neg e]
theorem mm_ne {M : MM} {a p : Addr} {o : MO} (h : M a = some o) (hp : M p = none) : a ≠ p := by
  intro e; subst e; rw [h] at hp; cases hp
def RpO (K : PySem.W.Frag) (S : Hp) : MO → HO → Prop
  | .lst ds, .lst xs => RpL K S ds xs
  | _, _ => False
theorem RpO.mono {K : PySem.W.Frag} {S S' : Hp} (e : Ex S S') {o : MO} {u : HO} (h : RpO K S o u) : RpO K S' o u := by
  cases o with
  | lst ds =>
    cases u with
    | lst xs => exact RpL.mono e _ _ h
    | _ => exact False.elim h
theorem RpO.lst_of {K : PySem.W.Frag} {S : Hp} {ds : List D} {u : HO} (h : RpO K S (.lst ds) u) : ∃ xs, u = .lst xs ∧ RpL K S ds xs := by
  cases u with
  | lst xs => exact ⟨xs, rfl, h⟩
  | _ => exact False.elim h
structure At0 (K : PySem.W.Frag) (S H : Hp) (M : MM) : Prop where
  ex : Ex S H
  mm : ∀ a o, M a = some o → S a = none ∧ ∃ u, H a = some u ∧ RpO K S o u
section
variable {K : PySem.W.Frag} {S S' H H' : Hp} {M : MM}
theorem At0.free (A : At0 K S H M) {p : Addr} (h : H p = none) : M p = none := by
  cases e : M p with
  | none => rfl
  | some o =>
    obtain ⟨_, u, e2, _⟩ := A.mm p o e
    rw [h] at e2
    cases e2
theorem At0.freeS (A : At0 K S H M) {p : Addr} (h : H p = none) : S p = none := fresh_back A.ex h
/-- a new frozen object -/
theorem At0.new (A : At0 K S H M) {p : Addr} (h : H p = none) (o : HO) : At0 K (upd S p o) (upd H p o) M ∧ Ex S (upd S p o) := by
  have e : Ex S (upd S p o) := Ex.new (A.freeS h)
  refine ⟨⟨fun b u eb => ?_, fun a m em => ?_⟩, e⟩
  · by_cases hb : b = p
    · subst hb; rw [upd_same] at eb ⊢; exact eb
    · rw [upd_ne hb] at eb ⊢; exact A.ex b u eb
  · obtain ⟨h1, u, h2, h3⟩ := A.mm a m em
    have ne : a ≠ p := ne_of_none h2 h
    exact ⟨by rw [upd_ne ne]; exact h1, u, by rw [upd_ne ne]; exact h2, h3.mono e⟩
/-- a new mutable object -/
theorem At0.newM (A : At0 K S H M) {p : Addr} (h : H p = none) {o : HO} {m : MO} (r : RpO K S m o) : At0 K S (upd H p o) (updM M p m) := by
  refine ⟨fun b u eb => ?_, fun a m' em => ?_⟩
  · rw [upd_ne (ne_of_none (A.ex b u eb) h)]; exact A.ex b u eb
  · by_cases ha : a = p
    · subst ha; rw [updM_same] at em; cases em
      exact ⟨A.freeS h, o, upd_same, r⟩
    · rw [updM_ne ha] at em
      obtain ⟨h1, u, h2, h3⟩ := A.mm a m' em
      exact ⟨h1, u, by rw [upd_ne ha]; exact h2, h3⟩
/-- a mutable object changes -/
theorem At0.put (A : At0 K S H M) {p : Addr} {m0 : MO} (h : M p = some m0) {o : HO} {m : MO} (r : RpO K S m o) : At0 K S (upd H p o) (updM M p m) := by
  obtain ⟨hS, _⟩ := A.mm p m0 h
  refine ⟨fun b u eb => ?_, fun a m' em => ?_⟩
  · rw [upd_ne (ne_of_none eb hS)]; exact A.ex b u eb
  · by_cases ha : a = p
    · subst ha; rw [updM_same] at em; cases em
      exact ⟨hS, o, upd_same, r⟩
    · rw [updM_ne ha] at em
      obtain ⟨h1, u, h2, h3⟩ := A.mm a m' em
      exact ⟨h1, u, by rw [upd_ne ha]; exact h2, h3⟩
/-- a mutable object is frozen -/
theorem At0.freeze (A : At0 K S H M) {p : Addr} {m : MO} (h : M p = some m) : ∃ S' o, At0 K S' H (delM M p) ∧ Ex S S' ∧ S' p = some o ∧ RpO K S m o := by
  obtain ⟨hS, o, hH, r⟩ := A.mm p m h
  have e : Ex S (upd S p o) := Ex.new hS
  refine ⟨upd S p o, o, ⟨fun b u eb => ?_, fun a m' em => ?_⟩, e, upd_same, r⟩
  · by_cases hb : b = p
    · subst hb; rw [upd_same] at eb; cases eb; exact hH
    · rw [upd_ne hb] at eb; exact A.ex b u eb
  · unfold delM at em
    by_cases ha : a = p
    · rw [if_pos ha] at em; cases em
    · rw [if_neg ha] at em
      obtain ⟨h1, u, h2, h3⟩ := A.mm a m' em
      exact ⟨by rw [upd_ne ha]; exact h1, u, h2, h3.mono e⟩
/-- fewer mutable objects -/
theorem At0.less (A : At0 K S H M) {M' : MM} (h : ∀ a o, M' a = some o → M a = some o) : At0 K S H M' := ⟨A.ex, fun a o e => A.mm a o (h a o e)⟩
end
/-! ### slots -/
def RpS (K : PySem.W.Frag) (S : Hp) : List (Option D) → St → Prop
  | [], σ => σ = []
  | none :: ρ, σ => ∃ x r, σ = x :: r ∧ RpS K S ρ r
  | some d :: ρ, σ => ∃ v r, σ = some v :: r ∧ Rp K S d v ∧ RpS K S ρ r
section
variable {K : PySem.W.Frag} {S S' H H' : Hp} {M : MM}
theorem RpS.mono (e : Ex S S') : ∀ {ρ : List (Option D)} {σ : St}, RpS K S ρ σ → RpS K S' ρ σ
  | [], σ, h => h
  | none :: ρ, σ, h => by
    obtain ⟨x, r, e1, h1⟩ := h
    exact ⟨x, r, e1, RpS.mono e h1⟩
  | some d :: ρ, σ, h => by
    obtain ⟨x, r, e1, h0, h1⟩ := h
    exact ⟨x, r, e1, h0.mono e, RpS.mono e h1⟩
theorem RpS.get : ∀ {ρ : List (Option D)} {σ : St} {i : Nat} {d : D}, RpS K S ρ σ → ρ[i]? = some (some d) → ∃ v, σ[i]? = some (some v) ∧ Rp K S d v
  | [], σ, i, d, h, e => by simp at e
  | none :: ρ, σ, 0, d, h, e => by simp at e
  | some d' :: ρ, σ, 0, d, h, e => by
    obtain ⟨v, r, rfl, h1, _⟩ := h
    simp at e
    subst e
    exact ⟨v, rfl, h1⟩
  | none :: ρ, σ, i + 1, d, h, e => by
    obtain ⟨x, r, rfl, h1⟩ := h
    obtain ⟨v, e', h'⟩ := RpS.get (i := i) h1 (by simpa using e)
    exact ⟨v, by simpa using e', h'⟩
  | some d' :: ρ, σ, i + 1, d, h, e => by
    obtain ⟨x, r, rfl, _, h1⟩ := h
    obtain ⟨v, e', h'⟩ := RpS.get (i := i) h1 (by simpa using e)
    exact ⟨v, by simpa using e', h'⟩
theorem RpS.set : ∀ {ρ : List (Option D)} {σ : St} (i : Nat) {d : D} {v : V}, RpS K S ρ σ → Rp K S d v → RpS K S (ρ.set i (some d)) (σ.set i (some v))
  | [], σ, i, d, v, h, k => by
    have h : σ = [] := h
    subst h
    rfl
  | none :: ρ, σ, 0, d, v, h, k => by
    obtain ⟨x, r, rfl, h1⟩ := h
    exact ⟨v, r, rfl, k, h1⟩
  | some d' :: ρ, σ, 0, d, v, h, k => by
    obtain ⟨x, r, rfl, _, h1⟩ := h
    exact ⟨v, r, rfl, k, h1⟩
  | none :: ρ, σ, i + 1, d, v, h, k => by
    obtain ⟨x, r, rfl, h1⟩ := h
    exact ⟨x, r.set i (some v), rfl, RpS.set i h1 k⟩
  | some d' :: ρ, σ, i + 1, d, v, h, k => by
    obtain ⟨x, r, rfl, h0, h1⟩ := h
    exact ⟨x, r.set i (some v), rfl, h0, RpS.set i h1 k⟩
/-- a slot is told anew -/
theorem RpS.say : ∀ {ρ : List (Option D)} {σ : St} (i : Nat) {d : D} {v : V}, RpS K S ρ σ → σ[i]? = some (some v) → Rp K S d v → RpS K S (ρ.set i (some d)) σ
  | [], σ, i, d, v, h, _, k => h
  | none :: ρ, σ, 0, d, v, h, e, k => by
    obtain ⟨x, r, rfl, h1⟩ := h
    simp at e
    subst e
    exact ⟨v, r, rfl, k, h1⟩
  | some d' :: ρ, σ, 0, d, v, h, e, k => by
    obtain ⟨x, r, rfl, _, h1⟩ := h
    simp at e
    subst e
    exact ⟨x, r, rfl, k, h1⟩
  | none :: ρ, σ, i + 1, d, v, h, e, k => by
    obtain ⟨x, r, rfl, h1⟩ := h
    exact ⟨x, r, rfl, RpS.say i h1 (by simpa using e) k⟩
  | some d' :: ρ, σ, i + 1, d, v, h, e, k => by
    obtain ⟨x, r, rfl, h0, h1⟩ := h
    exact ⟨x, r, rfl, h0, RpS.say i h1 (by simpa using e) k⟩
/-- a slot is forgotten -/
theorem RpS.drop : ∀ {ρ : List (Option D)} {σ : St} (i : Nat), RpS K S ρ σ → RpS K S (ρ.set i none) σ
  | [], σ, i, h => h
  | none :: ρ, σ, 0, h => h
  | some d' :: ρ, σ, 0, h => by
    obtain ⟨x, r, rfl, _, h1⟩ := h
    exact ⟨some x, r, rfl, h1⟩
  | none :: ρ, σ, i + 1, h => by
    obtain ⟨x, r, rfl, h1⟩ := h
    exact ⟨x, r, rfl, RpS.drop i h1⟩
  | some d' :: ρ, σ, i + 1, h => by
    obtain ⟨x, r, rfl, h0, h1⟩ := h
    exact ⟨x, r, rfl, h0, RpS.drop i h1⟩
theorem RpS.setN : ∀ {ρ : List (Option D)} {σ : St} (i : Nat), RpS K S ρ σ → RpS K S (ρ.set i none) (σ.set i none)
  | [], σ, i, h => by
    have h : σ = [] := h
    subst h
    rfl
  | none :: ρ, σ, 0, h => by
    obtain ⟨x, r, rfl, h1⟩ := h
    exact ⟨_, r, rfl, h1⟩
  | some d' :: ρ, σ, 0, h => by
    obtain ⟨x, r, rfl, _, h1⟩ := h
    exact ⟨_, r, rfl, h1⟩
  | none :: ρ, σ, i + 1, h => by
    obtain ⟨x, r, rfl, h1⟩ := h
    exact ⟨x, r.set i none, rfl, RpS.setN i h1⟩
  | some d' :: ρ, σ, i + 1, h => by
    obtain ⟨x, r, rfl, h0, h1⟩ := h
    exact ⟨x, r.set i none, rfl, h0, RpS.setN i h1⟩
theorem RpS.start : ∀ {ds : List D} {vs : List V} (n : Nat), RpL K S ds vs → RpS K S (ds.map some ++ List.replicate n none) (vs.map some ++ List.replicate n none)
  | [], vs, n, h => by
    rw [h.nil_of]
    simp only [List.map_nil, List.nil_append]
    induction n with
    | zero => rfl
    | succ n ih =>
      rw [List.replicate_succ, List.replicate_succ]
      exact ⟨_, _, rfl, ih⟩
  | d :: ds, vs, n, h => by
    obtain ⟨v, r, rfl, h1, h2⟩ := h.cons_of
    exact ⟨v, _, rfl, h1, RpS.start n h2⟩
end
end DL

namespace DL
open PySem L2 Evl
structure Sd where
  ρ : List (Option D)
  M : MM
/-- an exception: its class, its fields (none: made without a dict) -/
structure XC where
  cls : Value
  fs : Option (List (Str × D)) := none
/-- the fragment, the wish about exceptions, and what it is over data -/
structure Kx where
  K : PySem.W.Frag
  W : WX
  XQ : XC → Sd → Prop
/-- nothing is let out -/
abbrev Kx.no (K : PySem.W.Frag) : Kx := ⟨K, fun _ _ _ _ => False, fun _ _ => False⟩
def RpX (K : PySem.W.Frag) (S : Hp) (x : XC) (d : Option Addr) : Prop :=
  match x.fs with
  | none => d = none
  | some l => ∃ dd vs, d = some dd ∧ S dd = some (.xd vs) ∧ vs.map (·.1) = l.map (·.1) ∧ RpL K S (l.map (·.2)) (vs.map (·.2))
def XL (K : Kx) (S : Hp) : Prop := ∀ x s' S' H' σ' d, K.XQ x s' → Ex S S' → At0 K.K S' H' s'.M → RpS K.K S' s'.ρ σ' → RpX K.K S' x d → K.W x.cls d σ' H'
theorem XL.mono {K : Kx} {S S' : Hp} (h : XL K S) (e : Ex S S') : XL K S' := fun x s' S2 H' σ' d q e2 => h x s' S2 H' σ' d q (e.trans e2)
theorem XL.no {K : PySem.W.Frag} {S : Hp} : XL (Kx.no K) S := fun _ _ _ _ _ _ q => q.elim
structure At (K : Kx) (S H : Hp) (M : MM) : Prop extends At0 K.K S H M where
  xl : XL K S
theorem At0.up {K : Kx} {S S' H : Hp} {M : MM} (A : At0 K.K S' H M) (x : XL K S) (e : Ex S S') : At K S' H M := ⟨A, x.mono e⟩
section
variable {K : Kx} {S S' H H' : Hp} {M : MM}
theorem At.new (A : At K S H M) {p : Addr} (h : H p = none) (o : HO) : At K (upd S p o) (upd H p o) M ∧ Ex S (upd S p o) :=
  ⟨(A.toAt0.new h o).1.up A.xl (A.toAt0.new h o).2, (A.toAt0.new h o).2⟩
theorem At.newM (A : At K S H M) {p : Addr} (h : H p = none) {o : HO} {m : MO} (r : RpO K.K S m o) : At K S (upd H p o) (updM M p m) := ⟨A.toAt0.newM h r, A.xl⟩
theorem At.put (A : At K S H M) {p : Addr} {m0 : MO} (h : M p = some m0) {o : HO} {m : MO} (r : RpO K.K S m o) : At K S (upd H p o) (updM M p m) := ⟨A.toAt0.put h r, A.xl⟩
theorem At.freeze (A : At K S H M) {p : Addr} {m : MO} (h : M p = some m) : ∃ S' o, At K S' H (delM M p) ∧ Ex S S' ∧ S' p = some o ∧ RpO K.K S m o := by
  obtain ⟨S', o, a, e, b, c⟩ := A.toAt0.freeze h
  exact ⟨S', o, a.up A.xl e, e, b, c⟩
theorem At.less (A : At K S H M) {M' : MM} (h : ∀ a o, M' a = some o → M a = some o) : At K S H M' := ⟨A.toAt0.less h, A.xl⟩
end
/-- an expression's reading, over data -/
def Ed (K : Kx) (t : TE) (s : Sd) (Q : D → Sd → Prop) : Prop :=
  ∀ (S H : Hp) (σ : St), At K S H s.M → RpS K.K S s.ρ σ → ∀ R : VK, (∀ d s' v S' H', Q d s' → Ex S S' → At K S' H' s'.M → RpS K.K S' s'.ρ σ → Rp K.K S' d v → R v H') → t σ H R
def Et (K : Kx) (t : TT) (s : Sd) (Q : Bool → Sd → Prop) : Prop :=
  ∀ (S H : Hp) (σ : St), At K S H s.M → RpS K.K S s.ρ σ → ∀ R : Bool → Hp → Prop, (∀ b s' S' H', Q b s' → Ex S S' → At K S' H' s'.M → RpS K.K S' s'.ρ σ → R b H') → t σ H R
def Ea (K : Kx) (t : TA) (s : Sd) (Q : List D → Sd → Prop) : Prop :=
  ∀ (S H : Hp) (σ : St), At K S H s.M → RpS K.K S s.ρ σ → ∀ R : List V → Hp → Prop, (∀ ds s' vs S' H', Q ds s' → Ex S S' → At K S' H' s'.M → RpS K.K S' s'.ρ σ → RpL K.K S' ds vs → R vs H') → t σ H R
def Eo (K : Kx) (t : TO) (s : Sd) (Q : Option Int → Sd → Prop) : Prop :=
  ∀ (S H : Hp) (σ : St), At K S H s.M → RpS K.K S s.ρ σ → ∀ R : Option Int → Hp → Prop, (∀ o s' S' H', Q o s' → Ex S S' → At K S' H' s'.M → RpS K.K S' s'.ρ σ → R o H') → t σ H R
structure Pd where
  nx : Sd → Prop
  rt : D → MM → Prop
  bk : Sd → Prop := fun _ => False
  ct : Sd → Prop := fun _ => False
structure Lk (K : Kx) (S : Hp) (P : Pd) (N : Ends) : Prop where
  nx : ∀ s' S' H' σ', P.nx s' → Ex S S' → At K S' H' s'.M → RpS K.K S' s'.ρ σ' → N.nx σ' H'
  rt : ∀ d M' v S' H', P.rt d M' → Ex S S' → At K S' H' M' → Rp K.K S' d v → N.rt v H'
  bk : ∀ s' S' H' σ', P.bk s' → Ex S S' → At K S' H' s'.M → RpS K.K S' s'.ρ σ' → N.bk σ' H'
  ct : ∀ s' S' H' σ', P.ct s' → Ex S S' → At K S' H' s'.M → RpS K.K S' s'.ρ σ' → N.ct σ' H'
theorem Lk.mono {K : Kx} {S S' : Hp} {P : Pd} {N : Ends} (l : Lk K S P N) (e : Ex S S') : Lk K S' P N :=
  ⟨fun s' S2 H' σ' h e2 => l.nx s' S2 H' σ' h (e.trans e2), fun d M' v S2 H' h e2 => l.rt d M' v S2 H' h (e.trans e2), fun s' S2 H' σ' h e2 => l.bk s' S2 H' σ' h (e.trans e2), fun s' S2 H' σ' h e2 => l.ct s' S2 H' σ' h (e.trans e2)⟩
/-- a statement's reading, over data -/
def Es (K : Kx) (t : TS) (s : Sd) (P : Pd) : Prop :=
  ∀ (S H : Hp) (σ : St) (N : Ends), At K S H s.M → RpS K.K S s.ρ σ → Lk K S P N → t N σ H
/-- a target's -/
def Eg (K : Kx) (g : TG) (d : D) (s : Sd) (Q : Sd → Prop) : Prop :=
  ∀ (S H : Hp) (σ : St) (v : V), At K S H s.M → RpS K.K S s.ρ σ → Rp K.K S d v → ∀ R : St → Hp → Prop, (∀ s' S' H' σ', Q s' → Ex S S' → At K S' H' s'.M → RpS K.K S' s'.ρ σ' → R σ' H') → g v σ H R
def Egs (K : Kx) (g : TGs) (ds : List D) (s : Sd) (Q : Sd → Prop) : Prop :=
  ∀ (S H : Hp) (σ : St) (vs : List V), At K S H s.M → RpS K.K S s.ρ σ → RpL K.K S ds vs → ∀ R : St → Hp → Prop, (∀ s' S' H' σ', Q s' → Ex S S' → At K S' H' s'.M → RpS K.K S' s'.ρ σ' → R σ' H') → g vs σ H R

section
variable {K : Kx} {s : Sd} {Q : D → Sd → Prop} {ta tb te : TE} {t u : TT} {d : D} {v : V}
theorem Ed.imp {Q' : D → Sd → Prop} (h : Ed K te s Q) (q : ∀ d s, Q d s → Q' d s) : Ed K te s Q' := fun S H σ A r R k => h S H σ A r R fun d s' v S' H' h => k d s' v S' H' (q d s' h)
theorem Et.imp {Q Q' : Bool → Sd → Prop} (h : Et K t s Q) (q : ∀ d s, Q d s → Q' d s) : Et K t s Q' := fun S H σ A r R k => h S H σ A r R fun d s' S' H' h => k d s' S' H' (q d s' h)
theorem Ea.imp {ta : TA} {Q Q' : List D → Sd → Prop} (h : Ea K ta s Q) (q : ∀ d s, Q d s → Q' d s) : Ea K ta s Q' := fun S H σ A r R k => h S H σ A r R fun d s' v S' H' h => k d s' v S' H' (q d s' h)
theorem Es.imp {ts : TS} {P P' : Pd} (h : Es K ts s P) (h1 : ∀ s, P.nx s → P'.nx s) (h2 : ∀ d M, P.rt d M → P'.rt d M) (h3 : ∀ s, P.bk s → P'.bk s) (h4 : ∀ s, P.ct s → P'.ct s) : Es K ts s P' := fun S H σ N A r l =>
  h S H σ N A r ⟨fun s' S' H' σ' h => l.nx s' S' H' σ' (h1 _ h), fun d M' v S' H' h => l.rt d M' v S' H' (h2 _ _ h), fun s' S' H' σ' h => l.bk s' S' H' σ' (h3 _ h), fun s' S' H' σ' h => l.ct s' S' H' σ' (h4 _ h)⟩
theorem ed_var {i : Nat} (h : s.ρ[i]? = some (some d)) (q : Q d s) : Ed K (tVar i) s Q := fun S H σ A r R k => by
  obtain ⟨v, e, hv⟩ := r.get h
  exact ⟨v, e, k d s v S H q (Ex.refl S) A r hv⟩
theorem ed_c (q : Q (ofV v) s) : Ed K (tC v) s Q := fun S H σ A r R k => k _ s v S H q (Ex.refl S) A r (Rp.ofV v)
theorem ed_c' (hd : ∀ S, Rp K.K S d v) (q : Q d s) : Ed K (tC v) s Q := fun S H σ A r R k => k _ s v S H q (Ex.refl S) A r (hd S)
/-- a slot that holds a mutable list is frozen, and read -/
theorem ed_varF {i : Nat} {a : Addr} {ds : List D} (h : s.ρ[i]? = some (some (.adr a))) (hm : s.M a = some (.lst ds)) (q : Q (.lst ds) ⟨s.ρ.set i (some (.lst ds)), delM s.M a⟩) : Ed K (tVar i) s Q := fun S H σ A r R k => by
  obtain ⟨v, e, hv⟩ := r.get h
  obtain rfl := hv.oth_of
  obtain ⟨S', o, A', e', ho, ro⟩ := A.freeze hm
  obtain ⟨xs, rfl, rx⟩ := ro.lst_of
  exact ⟨_, e, k (.lst ds) ⟨s.ρ.set i (some (.lst ds)), delM s.M a⟩ _ S' H q e' A' ((r.mono e').say i e (Rp.lst ho (RpL.mono e' _ _ rx))) (Rp.lst ho (RpL.mono e' _ _ rx))⟩
/-- int operators -/
theorem ed_opI {C : Int → Int → Prop} {g : Int → Int → V} (h : Ed K ta s fun x s1 => Ed K tb s1 fun y s2 => ∃ i j, x = .int i ∧ y = .int j ∧ C i j ∧ Q (ofV (g i j)) s2) : Ed K (tOp (rI C g) ta tb) s Q := fun S H σ A r R k =>
  h S H σ A r _ fun x s1 v S1 H1 h1 e1 A1 r1 rx => h1 S1 H1 σ A1 r1 _ fun y s2 w S2 H2 h2 e2 A2 r2 ry => by
    obtain ⟨i, j, rfl, rfl, hc, q⟩ := h2
    exact ⟨i, j, (rx.mono e2).int_of, ry.int_of, hc, k _ s2 _ S2 H2 q (e1.trans e2) A2 r2 (Rp.ofV _)⟩
theorem ed_opI0 {g : Int → Int → V} (h : Ed K ta s fun x s1 => Ed K tb s1 fun y s2 => ∃ i j, x = .int i ∧ y = .int j ∧ Q (ofV (g i j)) s2) : Ed K (tOp (rI0 g) ta tb) s Q := fun S H σ A r R k =>
  h S H σ A r _ fun x s1 v S1 H1 h1 e1 A1 r1 rx => h1 S1 H1 σ A1 r1 _ fun y s2 w S2 H2 h2 e2 A2 r2 ry => by
    obtain ⟨i, j, rfl, rfl, q⟩ := h2
    exact ⟨i, j, (rx.mono e2).int_of, ry.int_of, k _ s2 _ S2 H2 q (e1.trans e2) A2 r2 (Rp.ofV _)⟩
/-- any operator on scalars -/
theorem ed_opV {r : R2} (h : Ed K ta s fun x s1 => Ed K tb s1 fun y s2 => ∃ v w, (∀ S u, Rp K.K S x u → u = v) ∧ (∀ S u, Rp K.K S y u → u = w) ∧ ∃ z, (∀ (H : Hp) (R : VK), R z H → r v w H R) ∧ Q (ofV z) s2) : Ed K (tOp r ta tb) s Q := fun S H σ A rr R k =>
  h S H σ A rr _ fun x s1 v S1 H1 h1 e1 A1 r1 rx => h1 S1 H1 σ A1 r1 _ fun y s2 w S2 H2 h2 e2 A2 r2 ry => by
    obtain ⟨v', w', hx, hy, z, hr, q⟩ := h2
    rw [hx _ _ rx, hy _ _ ry]
    exact hr H2 R (k _ s2 _ S2 H2 q (e1.trans e2) A2 r2 (Rp.ofV _))
theorem ed_un {g : Int → V} (h : Ed K ta s fun x s1 => ∃ i, x = .int i ∧ Q (ofV (g i)) s1) : Ed K (tUn (rU g) ta) s Q := fun S H σ A r R k =>
  h S H σ A r _ fun x s1 v S1 H1 h1 e1 A1 r1 rx => by
    obtain ⟨i, rfl, q⟩ := h1
    exact ⟨i, rx.int_of, k _ s1 _ S1 H1 q e1 A1 r1 (Rp.ofV _)⟩
/-- == and != of ints, of texts, of bools -/
theorem ed_eqI (h : Ed K ta s fun x s1 => Ed K tb s1 fun y s2 => ∃ i j, x = .int i ∧ y = .int j ∧ Q (.bl (decide (i = j))) s2) : Ed K (tOp rEq ta tb) s Q := fun S H σ A r R k =>
  h S H σ A r _ fun x s1 v S1 H1 h1 e1 A1 r1 rx => h1 S1 H1 σ A1 r1 _ fun y s2 w S2 H2 h2 e2 A2 r2 ry => by
    obtain ⟨i, j, rfl, rfl, q⟩ := h2
    rw [(rx.mono e2).int_of, ry.int_of]
    refine ⟨rfl, k _ s2 _ S2 H2 q (e1.trans e2) A2 r2 ?_⟩
    rw [show decide (V.int i = V.int j) = decide (i = j) from by simp]
    exact Rp.bl
theorem ed_neI (h : Ed K ta s fun x s1 => Ed K tb s1 fun y s2 => ∃ i j, x = .int i ∧ y = .int j ∧ Q (.bl (!decide (i = j))) s2) : Ed K (tOp rNe ta tb) s Q := fun S H σ A r R k =>
  h S H σ A r _ fun x s1 v S1 H1 h1 e1 A1 r1 rx => h1 S1 H1 σ A1 r1 _ fun y s2 w S2 H2 h2 e2 A2 r2 ry => by
    obtain ⟨i, j, rfl, rfl, q⟩ := h2
    rw [(rx.mono e2).int_of, ry.int_of]
    refine ⟨rfl, k _ s2 _ S2 H2 q (e1.trans e2) A2 r2 ?_⟩
    rw [show decide (V.int i = V.int j) = decide (i = j) from by simp]
    exact Rp.bl
theorem ed_eqS (h : Ed K ta s fun x s1 => Ed K tb s1 fun y s2 => ∃ i j, x = .str i ∧ y = .str j ∧ Q (.bl (decide (i = j))) s2) : Ed K (tOp rEq ta tb) s Q := fun S H σ A r R k =>
  h S H σ A r _ fun x s1 v S1 H1 h1 e1 A1 r1 rx => h1 S1 H1 σ A1 r1 _ fun y s2 w S2 H2 h2 e2 A2 r2 ry => by
    obtain ⟨i, j, rfl, rfl, q⟩ := h2
    rw [(rx.mono e2).str_of, ry.str_of]
    refine ⟨rfl, k _ s2 _ S2 H2 q (e1.trans e2) A2 r2 ?_⟩
    rw [show decide (V.str i = V.str j) = decide (i = j) from by simp]
    exact Rp.bl
theorem ed_neS (h : Ed K ta s fun x s1 => Ed K tb s1 fun y s2 => ∃ i j, x = .str i ∧ y = .str j ∧ Q (.bl (!decide (i = j))) s2) : Ed K (tOp rNe ta tb) s Q := fun S H σ A r R k =>
  h S H σ A r _ fun x s1 v S1 H1 h1 e1 A1 r1 rx => h1 S1 H1 σ A1 r1 _ fun y s2 w S2 H2 h2 e2 A2 r2 ry => by
    obtain ⟨i, j, rfl, rfl, q⟩ := h2
    rw [(rx.mono e2).str_of, ry.str_of]
    refine ⟨rfl, k _ s2 _ S2 H2 q (e1.trans e2) A2 r2 ?_⟩
    rw [show decide (V.str i = V.str j) = decide (i = j) from by simp]
    exact Rp.bl
/-- is None, by whether the datum is None -/
def isN : D → Bool
  | .non => true
  | .oth v => decide (v = .non)
  | _ => false
theorem Rp.isN_of {S : Hp} (h : Rp K.K S d v) : decide (v = .non) = isN d := by
  cases d with
  | non => rw [h.non_of]; rfl
  | bl b => rw [h.bl_of]; rfl
  | int i => rw [h.int_of]; rfl
  | str x => rw [h.str_of]; rfl
  | lst ds => obtain ⟨a, xs, rfl, _⟩ := h.lst_of; rfl
  | frz ds => obtain ⟨a, xs, rfl, _⟩ := h.frz_of; rfl
  | tup ds => obtain ⟨a, xs, rfl, _⟩ := h.tup_of; rfl
  | oth u => rw [h.oth_of]; rfl
theorem ed_isN (h : Ed K ta s fun x s1 => Q (.bl (isN x)) s1) : Ed K (tIsN ta) s Q := fun S H σ A r R k =>
  h S H σ A r _ fun x s1 v S1 H1 h1 e1 A1 r1 rx => by
    show R (.bl (decide (v = .non))) H1
    rw [rx.isN_of]
    exact k _ s1 _ S1 H1 h1 e1 A1 r1 Rp.bl
theorem ed_notN (h : Ed K ta s fun x s1 => Q (.bl (!isN x)) s1) : Ed K (tNotN ta) s Q := fun S H σ A r R k =>
  h S H σ A r _ fun x s1 v S1 H1 h1 e1 A1 r1 rx => by
    show R (.bl (!decide (v = .non))) H1
    rw [rx.isN_of]
    exact k _ s1 _ S1 H1 h1 e1 A1 r1 Rp.bl
/-- tests -/
theorem et_test {Q : Bool → Sd → Prop} (h : Ed K te s fun x s1 => ∃ b, x = .bl b ∧ Q b s1) : Et K (tTest te) s Q := fun S H σ A r R k =>
  h S H σ A r _ fun x s1 v S1 H1 h1 e1 A1 r1 rx => by
    obtain ⟨b, rfl, q⟩ := h1
    exact ⟨b, rx.bl_of, k b s1 S1 H1 q e1 A1 r1⟩
theorem et_B {Q : Bool → Sd → Prop} (h : Ed K te s fun x s1 => ∃ b, x = .bl b ∧ Q b s1) : Et K (tB te) s Q := fun S H σ A r R k =>
  h S H σ A r _ fun x s1 v S1 H1 h1 e1 A1 r1 rx => by
    obtain ⟨b, rfl, q⟩ := h1
    exact ⟨b, rx.bl_of, k b s1 S1 H1 q e1 A1 r1⟩
theorem et_and {Q : Bool → Sd → Prop} (h : Et K t s fun b s1 => (b = true → Et K u s1 Q) ∧ (b = false → Q false s1)) : Et K (tAnd t u) s Q := fun S H σ A r R k =>
  h S H σ A r _ fun b s1 S1 H1 h1 e1 A1 r1 => by
    cases b with
    | true => exact h1.1 rfl S1 H1 σ A1 r1 _ fun b s2 S2 H2 q e2 => k b s2 S2 H2 q (e1.trans e2)
    | false => exact k false s1 S1 H1 (h1.2 rfl) e1 A1 r1
theorem et_or {Q : Bool → Sd → Prop} (h : Et K t s fun b s1 => (b = true → Q true s1) ∧ (b = false → Et K u s1 Q)) : Et K (tOr t u) s Q := fun S H σ A r R k =>
  h S H σ A r _ fun b s1 S1 H1 h1 e1 A1 r1 => by
    cases b with
    | false => exact h1.2 rfl S1 H1 σ A1 r1 _ fun b s2 S2 H2 q e2 => k b s2 S2 H2 q (e1.trans e2)
    | true => exact k true s1 S1 H1 (h1.1 rfl) e1 A1 r1
theorem et_not {Q : Bool → Sd → Prop} (h : Et K t s fun b s1 => Q (!b) s1) : Et K (tNot t) s Q := fun S H σ A r R k =>
  h S H σ A r _ fun b s1 S1 H1 h1 e1 A1 r1 => k (!b) s1 S1 H1 h1 e1 A1 r1
theorem ed_andV (h : Ed K ta s fun x s1 => ∃ b, x = .bl b ∧ (b = true → Ed K tb s1 Q) ∧ (b = false → Q (.bl false) s1)) : Ed K (tAndV ta tb) s Q := fun S H σ A r R k =>
  h S H σ A r _ fun x s1 v S1 H1 h1 e1 A1 r1 rx => by
    obtain ⟨b, rfl, h2, h3⟩ := h1
    refine ⟨b, rx.bl_of, ?_⟩
    cases b with
    | true => exact h2 rfl S1 H1 σ A1 r1 _ fun d s2 v S2 H2 q e2 => k d s2 v S2 H2 q (e1.trans e2)
    | false => exact k _ s1 _ S1 H1 (h3 rfl) e1 A1 r1 Rp.bl
theorem ed_orV (h : Ed K ta s fun x s1 => ∃ b, x = .bl b ∧ (b = true → Q (.bl true) s1) ∧ (b = false → Ed K tb s1 Q)) : Ed K (tOrV ta tb) s Q := fun S H σ A r R k =>
  h S H σ A r _ fun x s1 v S1 H1 h1 e1 A1 r1 rx => by
    obtain ⟨b, rfl, h2, h3⟩ := h1
    refine ⟨b, rx.bl_of, ?_⟩
    cases b with
    | false => exact h3 rfl S1 H1 σ A1 r1 _ fun d s2 v S2 H2 q e2 => k d s2 v S2 H2 q (e1.trans e2)
    | true => exact k _ s1 _ S1 H1 (h2 rfl) e1 A1 r1 Rp.bl
theorem ed_notV (h : Ed K ta s fun x s1 => ∃ b, x = .bl b ∧ Q (.bl (!b)) s1) : Ed K (tNotV ta) s Q := fun S H σ A r R k =>
  h S H σ A r _ fun x s1 v S1 H1 h1 e1 A1 r1 rx => by
    obtain ⟨b, rfl, q⟩ := h1
    exact ⟨b, rx.bl_of, k _ s1 _ S1 H1 q e1 A1 r1 Rp.bl⟩
theorem ed_if (h : Et K t s fun b s1 => (b = true → Ed K ta s1 Q) ∧ (b = false → Ed K tb s1 Q)) : Ed K (tIf t ta tb) s Q := fun S H σ A r R k =>
  h S H σ A r _ fun b s1 S1 H1 h1 e1 A1 r1 => by
    cases b with
    | true => exact h1.1 rfl S1 H1 σ A1 r1 _ fun b s2 v S2 H2 q e2 => k b s2 v S2 H2 q (e1.trans e2)
    | false => exact h1.2 rfl S1 H1 σ A1 r1 _ fun b s2 v S2 H2 q e2 => k b s2 v S2 H2 q (e1.trans e2)
/-- arguments -/
theorem ea_nil {Q : List D → Sd → Prop} (q : Q [] s) : Ea K tNil s Q := fun S H σ A r R k => k [] s [] S H q (Ex.refl S) A r RpL.nil
theorem ea_cons {tr : TA} {Q : List D → Sd → Prop} (h : Ed K ta s fun x s1 => Ea K tr s1 fun xs s2 => Q (x :: xs) s2) : Ea K (tCons ta tr) s Q := fun S H σ A r R k =>
  h S H σ A r _ fun x s1 v S1 H1 h1 e1 A1 r1 rx => h1 S1 H1 σ A1 r1 _ fun xs s2 vs S2 H2 h2 e2 A2 r2 rxs => k _ s2 _ S2 H2 h2 (e1.trans e2) A2 r2 (RpL.cons (rx.mono e2) rxs)
/-- displays: frozen, mutable -/
theorem ed_lst {tr : TA} (h : Ea K tr s fun xs s1 => xs.length ≤ sizeLine ∧ Q (.lst xs) s1) : Ed K (tLst tr) s Q := fun S H σ A r R k =>
  h S H σ A r _ fun xs s1 vs S1 H1 h1 e1 A1 r1 rx => ⟨by rw [← rx.length]; exact h1.1, fun p hp => by
    obtain ⟨A2, e2⟩ := A1.new hp (.lst vs)
    exact k _ s1 _ _ _ h1.2 (e1.trans e2) A2 (r1.mono e2) (Rp.lst upd_same (RpL.mono e2 _ _ rx))⟩
theorem ed_lstM {tr : TA} (h : Ea K tr s fun xs s1 => xs.length ≤ sizeLine ∧ ∀ p, s1.M p = none → Q (.adr p) ⟨s1.ρ, updM s1.M p (.lst xs)⟩) : Ed K (tLst tr) s Q := fun S H σ A r R k =>
  h S H σ A r _ fun xs s1 vs S1 H1 h1 e1 A1 r1 rx => ⟨by rw [← rx.length]; exact h1.1, fun p hp => by
    have A2 := A1.newM hp (o := .lst vs) (m := .lst xs) rx
    exact k _ ⟨s1.ρ, updM s1.M p (.lst xs)⟩ _ _ _ (h1.2 p (A1.free hp)) e1 A2 r1 Rp.oth⟩
theorem ed_tup {tr : TA} (h : Ea K tr s fun xs s1 => xs.length ≤ sizeLine ∧ Q (.tup xs) s1) : Ed K (tTup tr) s Q := fun S H σ A r R k =>
  h S H σ A r _ fun xs s1 vs S1 H1 h1 e1 A1 r1 rx => ⟨by rw [← rx.length]; exact h1.1, fun p hp => by
    obtain ⟨A2, e2⟩ := A1.new hp (.tup vs)
    exact k _ s1 _ _ _ h1.2 (e1.trans e2) A2 (r1.mono e2) (Rp.tup (SqT.of upd_same) (RpL.mono e2 _ _ rx))⟩
/-- subscripts -/
theorem atI_map {ds : List D} {vs : List V} {S : Hp} {i : Int} (r : RpL K.K S ds vs) (h : atI ds i = some d) : ∃ v, atI vs i = some v ∧ Rp K.K S d v := by
  unfold atI at h ⊢
  rw [← r.length]
  cases e : ixN ds.length i with
  | none => rw [e] at h; cases h
  | some j =>
    rw [e] at h
    exact r.getD h
theorem ed_ixL (h : Ed K ta s fun x s1 => Ed K tb s1 fun y s2 => ∃ xs i d, asL x = some xs ∧ y = .int i ∧ atI xs i = some d ∧ Q d s2) : Ed K (tOp (rIxL K.K) ta tb) s Q := fun S H σ A r R k =>
  h S H σ A r _ fun x s1 v S1 H1 h1 e1 A1 r1 rx => h1 S1 H1 σ A1 r1 _ fun y s2 w S2 H2 h2 e2 A2 r2 ry => by
    obtain ⟨xs, i, d, hx, rfl, hd, q⟩ := h2
    obtain ⟨a, vs, rfl, hl, rl⟩ := (rx.mono e2).asL_of hx
    obtain ⟨v', hv, rv⟩ := atI_map rl hd
    exact ⟨a, vs, i, v', rfl, ry.int_of, ex_l A2.ex hl, hv, k _ s2 _ S2 H2 q (e1.trans e2) A2 r2 rv⟩
theorem ed_ixT (h : Ed K ta s fun x s1 => Ed K tb s1 fun y s2 => ∃ xs i d, x = .tup xs ∧ y = .int i ∧ atI xs i = some d ∧ Q d s2) : Ed K (tOp (rIxT K.K) ta tb) s Q := fun S H σ A r R k =>
  h S H σ A r _ fun x s1 v S1 H1 h1 e1 A1 r1 rx => h1 S1 H1 σ A1 r1 _ fun y s2 w S2 H2 h2 e2 A2 r2 ry => by
    obtain ⟨xs, i, d, rfl, rfl, hd, q⟩ := h2
    obtain ⟨a, vs, rfl, hl, rl⟩ := (rx.mono e2).tup_of
    obtain ⟨v', hv, rv⟩ := atI_map rl hd
    exact ⟨a, vs, i, v', rfl, ry.int_of, ex_t A2.ex hl, hv, k _ s2 _ S2 H2 q (e1.trans e2) A2 r2 rv⟩
/-- of a mutable list -/
theorem ed_ixM (h : Ed K ta s fun x s1 => Ed K tb s1 fun y s2 => ∃ a xs i d, x = .adr a ∧ s2.M a = some (.lst xs) ∧ y = .int i ∧ atI xs i = some d ∧ Q d s2) : Ed K (tOp (rIxL K.K) ta tb) s Q := fun S H σ A r R k =>
  h S H σ A r _ fun x s1 v S1 H1 h1 e1 A1 r1 rx => h1 S1 H1 σ A1 r1 _ fun y s2 w S2 H2 h2 e2 A2 r2 ry => by
    obtain ⟨a, xs, i, d, rfl, hm, rfl, hd, q⟩ := h2
    obtain rfl := rx.oth_of
    obtain ⟨_, u, hu, ro⟩ := A2.mm a _ hm
    obtain ⟨vs, rfl, rl⟩ := ro.lst_of
    obtain ⟨v', hv, rv⟩ := atI_map rl hd
    exact ⟨a, vs, i, v', rfl, ry.int_of, SqL.of hu, hv, k _ s2 _ S2 H2 q (e1.trans e2) A2 r2 rv⟩
/-- slices -/
theorem eo_none {Q : Option Int → Sd → Prop} (q : Q none s) : Eo K tNoPart s Q := fun S H σ A r R k => k none s S H q (Ex.refl S) A r
theorem eo_some {Q : Option Int → Sd → Prop} (h : Ed K te s fun x s1 => ∃ i, x = .int i ∧ Q (some i) s1) : Eo K (tPart te) s Q := fun S H σ A r R k =>
  h S H σ A r _ fun x s1 v S1 H1 h1 e1 A1 r1 rx => by
    obtain ⟨i, rfl, q⟩ := h1
    exact ⟨i, rx.int_of, k _ s1 S1 H1 q e1 A1 r1⟩
def cutD (xs : List D) (lo hi : Option Int) : List D := (xs.drop (HT.sIx xs.length 0 lo)).take (HT.sIx xs.length xs.length hi - HT.sIx xs.length 0 lo)
theorem RpL.cut {S : Hp} {ds : List D} {vs : List V} (r : RpL K.K S ds vs) (lo hi : Option Int) : RpL K.K S (cutD ds lo hi) (cutV vs lo hi) := by
  unfold cutD cutV
  rw [← r.length]
  exact (r.drop _).take _
theorem ed_slL {tl th : TO} (h : Ed K te s fun x s1 => Eo K tl s1 fun lo s2 => Eo K th s2 fun hi s3 => ∃ xs, asL x = some xs ∧ Q (.lst (cutD xs lo hi)) s3) : Ed K (tSl (rSlL K.K) te tl th) s Q := fun S H σ A r R k =>
  h S H σ A r _ fun x s1 v S1 H1 h1 e1 A1 r1 rx => h1 S1 H1 σ A1 r1 _ fun lo s2 S2 H2 h2 e2 A2 r2 => h2 S2 H2 σ A2 r2 _ fun hi s3 S3 H3 h3 e3 A3 r3 => by
    obtain ⟨xs, hx, q⟩ := h3
    obtain ⟨a, vs, rfl, hl, rl⟩ := (rx.mono (e2.trans e3)).asL_of hx
    refine ⟨a, vs, rfl, ex_l A3.ex hl, fun p hp => ?_⟩
    obtain ⟨A4, e4⟩ := A3.new hp (.lst (cutV vs lo hi))
    exact k _ s3 _ _ _ q ((e1.trans (e2.trans e3)).trans e4) A4 (r3.mono e4) (Rp.lst upd_same (RpL.mono e4 _ _ (rl.cut lo hi)))
theorem ed_slM {tl th : TO} (h : Ed K te s fun x s1 => Eo K tl s1 fun lo s2 => Eo K th s2 fun hi s3 => ∃ a xs, x = .adr a ∧ s3.M a = some (.lst xs) ∧ Q (.lst (cutD xs lo hi)) s3) : Ed K (tSl (rSlL K.K) te tl th) s Q := fun S H σ A r R k =>
  h S H σ A r _ fun x s1 v S1 H1 h1 e1 A1 r1 rx => h1 S1 H1 σ A1 r1 _ fun lo s2 S2 H2 h2 e2 A2 r2 => h2 S2 H2 σ A2 r2 _ fun hi s3 S3 H3 h3 e3 A3 r3 => by
    obtain ⟨a, xs, rfl, hm, q⟩ := h3
    obtain rfl := rx.oth_of
    obtain ⟨_, u, hu, ro⟩ := A3.mm a _ hm
    obtain ⟨vs, rfl, rl⟩ := ro.lst_of
    refine ⟨a, vs, rfl, SqL.of hu, fun p hp => ?_⟩
    obtain ⟨A4, e4⟩ := A3.new hp (.lst (cutV vs lo hi))
    exact k _ s3 _ _ _ q ((e1.trans (e2.trans e3)).trans e4) A4 (r3.mono e4) (Rp.lst upd_same (RpL.mono e4 _ _ (rl.cut lo hi)))
/-- xs + ys -/
theorem ed_cat (h : Ed K ta s fun x s1 => Ed K tb s1 fun y s2 => ∃ xs ys, x = .lst xs ∧ y = .lst ys ∧ xs.length + ys.length ≤ sizeLine ∧ Q (.lst (xs ++ ys)) s2) : Ed K (tOp rCat ta tb) s Q := fun S H σ A r R k =>
  h S H σ A r _ fun x s1 v S1 H1 h1 e1 A1 r1 rx => h1 S1 H1 σ A1 r1 _ fun y s2 w S2 H2 h2 e2 A2 r2 ry => by
    obtain ⟨xs, ys, rfl, rfl, hz, q⟩ := h2
    obtain ⟨a, vs, rfl, ha, ra⟩ := (rx.mono e2).lst_of
    obtain ⟨b, us, rfl, hb, rb⟩ := ry.lst_of
    refine ⟨a, b, vs, us, rfl, rfl, A2.ex _ _ ha, A2.ex _ _ hb, by rw [← ra.length, ← rb.length]; exact hz, fun p hp => ?_⟩
    obtain ⟨A4, e4⟩ := A2.new hp (.lst (vs ++ us))
    exact k _ s2 _ _ _ q ((e1.trans e2).trans e4) A4 (r2.mono e4) (Rp.lst upd_same (RpL.mono e4 _ _ (ra.append rb)))
/-- calls of built-ins -/
def seqL : D → Option (List D)
  | .lst ds => some ds
  | .frz ds => some ds
  | .tup ds => some ds
  | _ => none
theorem Rp.seqL_of {S : Hp} {ds : List D} (h : Rp K.K S d v) (e : seqL d = some ds) : ∃ a xs, v = .ref a ∧ (SqL K.K S a xs ∨ SqT K.K S a xs) ∧ RpL K.K S ds xs := by
  cases d <;> simp only [seqL, Option.some.injEq, reduceCtorEq] at e
  · subst e
    obtain ⟨a, xs, e1, h1, h2⟩ := h.lst_of
    exact ⟨a, xs, e1, .inl (SqL.of h1), h2⟩
  · subst e
    obtain ⟨a, xs, e1, h1, h2⟩ := h.frz_of
    exact ⟨a, xs, e1, .inl h1, h2⟩
  · subst e
    obtain ⟨a, xs, e1, h1, h2⟩ := h.tup_of
    exact ⟨a, xs, e1, .inr h1, h2⟩
theorem ed_len (h : Ed K ta s fun x s1 => ∃ xs, seqL x = some xs ∧ Q (.int (xs.length : Int)) s1) : Ed K (tCB (rLenS K.K) (tCons ta tNil)) s Q := fun S H σ A r R k =>
  h S H σ A r _ fun x s1 v S1 H1 h1 e1 A1 r1 rx => by
    obtain ⟨xs, hx, q⟩ := h1
    obtain ⟨a, vs, rfl, hl, rl⟩ := rx.seqL_of hx
    refine ⟨a, vs, rfl, hl.elim (fun z => .inl (ex_l A1.ex z)) fun z => .inr (ex_t A1.ex z), ?_⟩
    rw [← rl.length]
    exact k _ s1 _ S1 H1 q e1 A1 r1 Rp.int
theorem ed_lenM (h : Ed K ta s fun x s1 => ∃ a xs, x = .adr a ∧ s1.M a = some (.lst xs) ∧ Q (.int (xs.length : Int)) s1) : Ed K (tCB (rLenS K.K) (tCons ta tNil)) s Q := fun S H σ A r R k =>
  h S H σ A r _ fun x s1 v S1 H1 h1 e1 A1 r1 rx => by
    obtain ⟨a, xs, rfl, hm, q⟩ := h1
    obtain rfl := rx.oth_of
    obtain ⟨_, u, hu, ro⟩ := A1.mm a _ hm
    obtain ⟨vs, rfl, rl⟩ := ro.lst_of
    refine ⟨a, vs, rfl, .inl (SqL.of hu), ?_⟩
    rw [← rl.length]
    exact k _ s1 _ S1 H1 q e1 A1 r1 Rp.int
theorem ed_list (h : Ed K ta s fun x s1 => ∃ xs, seqL x = some xs ∧ Q (.lst xs) s1) : Ed K (tCB (rListS K.K) (tCons ta tNil)) s Q := fun S H σ A r R k =>
  h S H σ A r _ fun x s1 v S1 H1 h1 e1 A1 r1 rx => by
    obtain ⟨xs, hx, q⟩ := h1
    obtain ⟨a, vs, rfl, hl, rl⟩ := rx.seqL_of hx
    refine ⟨a, vs, rfl, hl.elim (fun z => .inl (ex_l A1.ex z)) fun z => .inr (ex_t A1.ex z), fun p hp => ?_⟩
    obtain ⟨A4, e4⟩ := A1.new hp (.lst vs)
    exact k _ s1 _ _ _ q (e1.trans e4) A4 (r1.mono e4) (Rp.lst upd_same (RpL.mono e4 _ _ rl))
def rInt1 : List V → Hp → VK → Prop := fun xs H Q => (∃ i, xs = [.int i] ∧ Q (.int i) H) ∨ ∃ k, xs = [.bl k] ∧ Q (.int (if k then 1 else 0)) H
theorem ed_int (h : Ed K ta s fun x s1 => ∃ i, x = .int i ∧ Q (.int i) s1) : Ed K (tCB rInt1 (tCons ta tNil)) s Q := fun S H σ A r R k =>
  h S H σ A r _ fun x s1 v S1 H1 h1 e1 A1 r1 rx => by
    obtain ⟨i, rfl, q⟩ := h1
    refine .inl ⟨i, ?_, k _ s1 _ S1 H1 q e1 A1 r1 Rp.int⟩
    rw [rx.int_of]
theorem ed_intB (h : Ed K ta s fun x s1 => ∃ b, x = .bl b ∧ Q (.int (if b then 1 else 0)) s1) : Ed K (tCB rInt1 (tCons ta tNil)) s Q := fun S H σ A r R k =>
  h S H σ A r _ fun x s1 v S1 H1 h1 e1 A1 r1 rx => by
    obtain ⟨i, rfl, q⟩ := h1
    refine .inr ⟨i, ?_, k _ s1 _ S1 H1 q e1 A1 r1 Rp.int⟩
    rw [rx.bl_of]
/-- a built-in on scalars -/
theorem ed_cbV {r : List V → Hp → VK → Prop} {tr : TA} (h : Ea K tr s fun xs s1 => ∃ vs, (∀ S us, RpL K.K S xs us → us = vs) ∧ ∃ z, (∀ (H : Hp) (R : VK), R z H → r vs H R) ∧ Q (ofV z) s1) : Ed K (tCB r tr) s Q := fun S H σ A rr R k =>
  h S H σ A rr _ fun xs s1 us S1 H1 h1 e1 A1 r1 rx => by
    obtain ⟨vs, hv, z, hr, q⟩ := h1
    show r us H1 R
    rw [hv _ _ rx]
    exact hr H1 R (k _ s1 _ S1 H1 q e1 A1 r1 (Rp.ofV _))
end
end DL

namespace DL
open PySem L2 Evl
section
variable {K : Kx} {s : Sd} {Q : D → Sd → Prop} {ta tb te tl : TE} {t u : TT} {d : D} {v : V} {P : Pd} {ts tr tz : TS} {g : TG}
/-! ### statements -/
theorem es_next (h : P.nx s) : Es K tNext s P := fun S H σ N A r l => l.nx s S H σ h (Ex.refl S) A r
theorem es_break (h : P.bk s) : Es K tBreak s P := fun S H σ N A r l => l.bk s S H σ h (Ex.refl S) A r
theorem es_cont (h : P.ct s) : Es K tCont s P := fun S H σ N A r l => l.ct s S H σ h (Ex.refl S) A r
theorem es_seq (h : Es K ts s { P with nx := fun s' => Es K tr s' P }) : Es K (tSeq ts tr) s P := fun S H σ N A r l =>
  h S H σ { N with nx := tr N } A r ⟨fun s' S' H' σ' q e A' r' => q S' H' σ' N A' r' (l.mono e), l.rt, l.bk, l.ct⟩
theorem es_ret (h : Ed K te s fun d s' => P.rt d s'.M) : Es K (tRet te) s P := fun S H σ N A r l =>
  h S H σ A r _ fun d s' v S' H' q e A' r' rv => l.rt d s'.M v S' H' q e A' rv
theorem es_retN (h : P.rt .non s.M) : Es K tRetN s P := fun S H σ N A r l => l.rt .non s.M _ S H h (Ex.refl S) A Rp.non
theorem es_drop (h : Ed K te s fun _ s' => P.nx s') : Es K (tDrop te) s P := fun S H σ N A r l =>
  h S H σ A r _ fun d s' v S' H' q e A' r' rv => l.nx s' S' H' σ q e A' r'
theorem es_if (h : Et K t s fun b s' => (b = true → Es K ts s' P) ∧ (b = false → Es K tr s' P)) : Es K (tIfS t ts tr) s P := fun S H σ N A r l =>
  h S H σ A r _ fun b s' S' H' q e A' r' => by
    cases b with
    | true => exact q.1 rfl S' H' σ N A' r' (l.mono e)
    | false => exact q.2 rfl S' H' σ N A' r' (l.mono e)
theorem es_asg (h : Ed K te s fun d s' => Eg K g d s' P.nx) : Es K (tAsg te g) s P := fun S H σ N A r l =>
  h S H σ A r _ fun d s' v S' H' q e A' r' rv => q S' H' σ v A' r' rv _ fun s2 S2 H2 σ2 q2 e2 A2 r2 => l.nx s2 S2 H2 σ2 q2 (e.trans e2) A2 r2
theorem es_set {i : Nat} (h : Ed K te s fun d s' => P.nx ⟨s'.ρ.set i (some d), s'.M⟩) : Es K (tAsg te (gName i)) s P := fun S H σ N A r l =>
  h S H σ A r _ fun d s' v S' H' q e A' r' rv => l.nx ⟨s'.ρ.set i (some d), s'.M⟩ S' H' _ q e A' (r'.set i rv)
theorem es_aug {i : Nat} {f : Int → Int → Int} {a : Int} (h0 : s.ρ[i]? = some (some (.int a))) (h : Ed K te s fun d s' => ∃ b, d = .int b ∧ P.nx ⟨s'.ρ.set i (some (.int (f a b))), s'.M⟩) : Es K (tAug i te (ipI f)) s P := fun S H σ N A r l => by
  obtain ⟨x, ex, rx⟩ := r.get h0
  obtain rfl := rx.int_of
  refine ⟨_, ex, h S H σ A r _ fun d s' v S' H' q e A' r' rv => ?_⟩
  obtain ⟨b, rfl, q⟩ := q
  exact ⟨a, b, rfl, rv.int_of, l.nx ⟨s'.ρ.set i (some (.int (f a b))), s'.M⟩ S' H' _ q e A' (r'.set i Rp.int)⟩
/-! ### targets -/
theorem eg_name {i : Nat} {Q : Sd → Prop} (h : Q ⟨s.ρ.set i (some d), s.M⟩) : Eg K (gName i) d s Q := fun S H σ v A r rv R k =>
  k ⟨s.ρ.set i (some d), s.M⟩ S H _ h (Ex.refl S) A (r.set i rv)
theorem egs_nil {Q : Sd → Prop} (h : Q s) : Egs K gNil [] s Q := fun S H σ vs A r rv R k => ⟨rv.nil_of, k s S H σ h (Ex.refl S) A r⟩
theorem egs_cons {gs : TGs} {ds : List D} {Q : Sd → Prop} (h : Eg K g d s fun s1 => Egs K gs ds s1 Q) : Egs K (gCons g gs) (d :: ds) s Q := fun S H σ vs A r rv R k => by
  obtain ⟨v, us, rfl, rv1, rv2⟩ := rv.cons_of
  refine ⟨v, us, rfl, h S H σ v A r rv1 _ fun s1 S1 H1 σ1 q e A1 r1 => ?_⟩
  exact q S1 H1 σ1 us A1 r1 (RpL.mono e _ _ rv2) R fun s2 S2 H2 σ2 q2 e2 => k s2 S2 H2 σ2 q2 (e.trans e2)
theorem eg_tup {n : Nat} {gs : TGs} {Q : Sd → Prop} (h : ∃ ds, d = .tup ds ∧ ds.length = n ∧ Egs K gs ds s Q) : Eg K (gTup K.K n gs) d s Q := fun S H σ v A r rv R k => by
  obtain ⟨ds, rfl, hn, h⟩ := h
  obtain ⟨a, vs, rfl, ht, rl⟩ := rv.tup_of
  exact ⟨a, vs, rfl, ex_t A.ex ht, by rw [← rl.length]; exact hn, h S H σ vs A r rl R k⟩
/-- xs[i] = v of a mutable list -/
theorem eg_setM {Q : Sd → Prop} (h : Ed K ta s fun x s1 => Ed K tb s1 fun y s2 => ∃ a xs i j, x = .adr a ∧ y = .int i ∧ s2.M a = some (.lst xs) ∧ ixN xs.length i = some j ∧ Q ⟨s2.ρ, updM s2.M a (.lst (xs.set j d))⟩) : Eg K (gSub ta tb rSetL) d s Q := fun S H σ v A r rv R k =>
  h S H σ A r _ fun x s1 w S1 H1 h1 e1 A1 r1 rx => h1 S1 H1 σ A1 r1 _ fun y s2 z S2 H2 h2 e2 A2 r2 ry => by
    obtain ⟨a, xs, i, j, rfl, rfl, hm, hj, q⟩ := h2
    obtain rfl := rx.oth_of
    obtain ⟨_, o, hu, ro⟩ := A2.mm a _ hm
    obtain ⟨vs, rfl, rl⟩ := ro.lst_of
    refine ⟨a, vs, i, j, rfl, ry.int_of, hu, by rw [← rl.length]; exact hj, ?_⟩
    exact k ⟨s2.ρ, updM s2.M a (.lst (xs.set j d))⟩ S2 _ σ q (e1.trans e2) (A2.put hm (o := .lst (vs.set j v)) (m := .lst (xs.set j d)) (RpL.set j ((rv.mono e1).mono e2) rl)) r2
/-! ### methods of a mutable list -/
theorem tyV_list {S H : Hp} {M : MM} (A : At K S H M) {a : Addr} {ds : List D} (h : M a = some (.lst ds)) : tyV K.K "list" (.ref a) H := by
  obtain ⟨_, u, hu, ro⟩ := A.mm a _ h
  obtain ⟨vs, rfl, rl⟩ := ro.lst_of
  exact .inl ⟨rfl, _, SqL.of hu⟩
/-- l.append(y) -/
theorem ed_app (h : Ed K ta s fun x s1 => ∃ a xs, x = .adr a ∧ s1.M a = some (.lst xs) ∧ Ed K tb s1 fun y s2 => ∃ xs', s2.M a = some (.lst xs') ∧ xs'.length < sizeLine ∧ Q .non ⟨s2.ρ, updM s2.M a (.lst (xs' ++ [y]))⟩) :
    Ed K (tBM K.K "list" rAppend ta (tCons tb tNil)) s Q := fun S H σ A r R k =>
  h S H σ A r _ fun x s1 w S1 H1 h1 e1 A1 r1 rx => by
    obtain ⟨a, xs, rfl, hm, h1⟩ := h1
    obtain rfl := rx.oth_of
    refine ⟨tyV_list A1 hm, h1 S1 H1 σ A1 r1 _ fun y s2 z S2 H2 h2 e2 A2 r2 ry => ?_⟩
    obtain ⟨xs', hm', hz, q⟩ := h2
    obtain ⟨_, o, hu, ro⟩ := A2.mm a _ hm'
    obtain ⟨vs, rfl, rl⟩ := ro.lst_of
    refine ⟨a, vs, z, rfl, rfl, hu, by rw [← rl.length]; exact hz, ?_⟩
    exact k .non ⟨s2.ρ, updM s2.M a (.lst (xs' ++ [y]))⟩ _ S2 _ q (e1.trans e2) (A2.put hm' (o := .lst (vs ++ [z])) (m := .lst (xs' ++ [y])) (rl.append (RpL.cons ry RpL.nil))) r2 Rp.non
/-- l.pop() -/
theorem ed_pop (h : Ed K ta s fun x s1 => ∃ a xs y, x = .adr a ∧ s1.M a = some (.lst xs) ∧ xs[xs.length - 1]? = some y ∧ Q y ⟨s1.ρ, updM s1.M a (.lst xs.dropLast)⟩) : Ed K (tBM0 K.K "list" rPop ta) s Q := fun S H σ A r R k =>
  h S H σ A r _ fun x s1 w S1 H1 h1 e1 A1 r1 rx => by
    obtain ⟨a, xs, y, rfl, hm, hy, q⟩ := h1
    obtain rfl := rx.oth_of
    refine ⟨tyV_list A1 hm, ?_⟩
    obtain ⟨_, o, hu, ro⟩ := A1.mm a _ hm
    obtain ⟨vs, rfl, rl⟩ := ro.lst_of
    obtain ⟨z, hz, rz⟩ := rl.getD hy
    refine ⟨a, vs, z, rfl, rfl, hu, by rw [← rl.length]; exact hz, ?_⟩
    exact k y ⟨s1.ρ, updM s1.M a (.lst xs.dropLast)⟩ _ S1 _ q e1 (A1.put hm (o := .lst vs.dropLast) (m := .lst xs.dropLast) rl.dropLast) r1 rz
/-- l.extend(ys), ys a frozen list -/
theorem ed_ext (h : Ed K ta s fun x s1 => ∃ a xs, x = .adr a ∧ s1.M a = some (.lst xs) ∧ Ed K tb s1 fun y s2 => ∃ xs' ys, y = .lst ys ∧ s2.M a = some (.lst xs') ∧ xs'.length + ys.length ≤ sizeLine ∧ Q .non ⟨s2.ρ, updM s2.M a (.lst (xs' ++ ys))⟩) :
    Ed K (tBM K.K "list" rExtend ta (tCons tb tNil)) s Q := fun S H σ A r R k =>
  h S H σ A r _ fun x s1 w S1 H1 h1 e1 A1 r1 rx => by
    obtain ⟨a, xs, rfl, hm, h1⟩ := h1
    obtain rfl := rx.oth_of
    refine ⟨tyV_list A1 hm, h1 S1 H1 σ A1 r1 _ fun y s2 z S2 H2 h2 e2 A2 r2 ry => ?_⟩
    obtain ⟨xs', ys, rfl, hm', hz, q⟩ := h2
    obtain ⟨_, o, hu, ro⟩ := A2.mm a _ hm'
    obtain ⟨vs, rfl, rl⟩ := ro.lst_of
    obtain ⟨b, us, rfl, hb, rb⟩ := ry.lst_of
    refine ⟨a, b, vs, us, rfl, rfl, hu, A2.ex _ _ hb, by rw [← rl.length, ← rb.length]; exact hz, ?_⟩
    exact k .non ⟨s2.ρ, updM s2.M a (.lst (xs' ++ ys))⟩ _ S2 _ q (e1.trans e2) (A2.put hm' (o := .lst (vs ++ us)) (m := .lst (xs' ++ ys)) (rl.append rb)) r2 Rp.non
/-! ### loops -/
/-- a loop over items, told from the front -/
def Lp (K : Kx) (g : TG) (tb : TS) (P : Pd) : List D → Sd → Prop
  | [], s => P.nx s
  | x :: xs, s => Eg K g x s fun s2 => Es K tb s2 { P with nx := Lp K g tb P xs, ct := Lp K g tb P xs, bk := P.nx }
/-- what a walk yields: the data ds, one by one -/
structure ItOk (K : Kx) (S : Hp) (ds : List D) (J : It) : Prop where
  go : ∀ i d S2 H2 M2, ds[i]? = some d → Ex S S2 → At K S2 H2 M2 → J.go i H2 ∧ ∀ x H3, J.yld i H2 x H3 → ∃ S3, Ex S2 S3 ∧ At K S3 H3 M2 ∧ Rp K.K S3 d x
  stop : ∀ S2 H2 M2, Ex S S2 → At K S2 H2 M2 → J.stop ds.length H2
def Ei (K : Kx) (wi : TI) (s : Sd) (Q : List D → Sd → Prop) : Prop :=
  ∀ (S H : Hp) (σ : St), At K S H s.M → RpS K.K S s.ρ σ → ∀ R : It → Hp → Prop, (∀ ds s' J S' H', Q ds s' → Ex S S' → At K S' H' s'.M → RpS K.K S' s'.ρ σ → ItOk K S' ds J → R J H') → wi σ H R
theorem es_for {wi : TI} (h : Ei K wi s fun ds s' => Lp K g ts P ds s') : Es K (tFor wi g ts) s P := fun S H σ N A r l =>
  h S H σ A r _ fun ds s' J S' H' q e A' r' hJ => by
    have l' := l.mono e
    refine ⟨fun i m σ H => m = ds.length - i ∧ i ≤ ds.length ∧ ∃ s' S2, Lp K g ts P (ds.drop i) s' ∧ Ex S' S2 ∧ At K S2 H s'.M ∧ RpS K.K S2 s'.ρ σ, ⟨ds.length, rfl, Nat.zero_le _, s', S', by rw [List.drop_zero]; exact q, Ex.refl _, A', r'⟩, ?_⟩
    rintro i m σ1 H1 ⟨rfl, hi, s1, S1, hl, e1, A1, r1⟩
    by_cases hlt : i < ds.length
    · rw [List.drop_eq_getElem_cons hlt] at hl
      obtain ⟨g1, g2⟩ := hJ.go i _ S1 H1 _ (List.getElem?_eq_getElem hlt) e1 A1
      refine .inr ⟨g1, fun σ H => ∃ s' S2, Lp K g ts P (ds.drop (i + 1)) s' ∧ Ex S' S2 ∧ At K S2 H s'.M ∧ RpS K.K S2 s'.ρ σ, fun σ' H' p' => ⟨ds.length - (i + 1), by omega, rfl, hlt, p'⟩, fun x H2 y => ?_⟩
      obtain ⟨S2, e2, A2, rx⟩ := g2 x H2 y
      refine hl S2 H2 σ1 x A2 (r1.mono e2) rx _ fun s3 S3 H3 σ3 q3 e3 A3 r3 => ?_
      have e' := (e1.trans e2).trans e3
      exact q3 S3 H3 σ3 _ A3 r3 ⟨fun s4 S4 H4 σ4 q4 e4 A4 r4 => ⟨s4, S4, q4, e'.trans e4, A4, r4⟩, fun d' M' v S4 H4 q4 e4 A4 r4 => l'.rt d' M' v S4 H4 q4 (e'.trans e4) A4 r4,
        fun s4 S4 H4 σ4 q4 e4 A4 r4 => l'.nx s4 S4 H4 σ4 q4 (e'.trans e4) A4 r4, fun s4 S4 H4 σ4 q4 e4 A4 r4 => ⟨s4, S4, q4, e'.trans e4, A4, r4⟩⟩
    · have e2 : i = ds.length := by omega
      subst e2
      rw [List.drop_length] at hl
      exact .inl ⟨hJ.stop S1 H1 _ e1 A1, l'.nx s1 S1 H1 σ1 hl e1 A1 r1⟩
theorem ei_list {Q : List D → Sd → Prop} (h : Ed K tl s fun d s' => ∃ ds, asL d = some ds ∧ Q ds s') : Ei K (iList K.K tl) s Q := fun S H σ A r R k =>
  h S H σ A r _ fun d s' v S' H' q e A' r' rv => by
    obtain ⟨ds, hd, hl⟩ := q
    obtain ⟨a, vs, rfl, ha, rl⟩ := rv.asL_of hd
    refine ⟨a, rfl, ⟨vs, ex_l A'.ex ha⟩, k ds s' _ S' H' hl e A' r' ⟨fun i d S2 H2 M2 hi e2 A2 => ?_, fun S2 H2 M2 e2 A2 => ⟨vs, ex_l A2.ex (ex_l e2 ha), Nat.le_of_eq rl.length.symm⟩⟩⟩
    obtain ⟨x, hx, rx⟩ := rl.getD hi
    refine ⟨⟨vs, x, ex_l A2.ex (ex_l e2 ha), hx⟩, fun y H3 ⟨e3, hy⟩ => ?_⟩
    subst e3
    have z := hy vs (ex_l A2.ex (ex_l e2 ha))
    rw [hx] at z
    cases z
    exact ⟨S2, Ex.refl _, A2, rx.mono e2⟩
theorem ei_tup {Q : List D → Sd → Prop} (h : Ed K tl s fun d s' => ∃ ds, d = .tup ds ∧ Q ds s') : Ei K (iTup K.K tl) s Q := fun S H σ A r R k =>
  h S H σ A r _ fun d s' v S' H' q e A' r' rv => by
    obtain ⟨ds, rfl, hl⟩ := q
    obtain ⟨a, vs, rfl, ha, rl⟩ := rv.tup_of
    refine ⟨a, rfl, ⟨vs, ex_t A'.ex ha⟩, k ds s' _ S' H' hl e A' r' ⟨fun i d S2 H2 M2 hi e2 A2 => ?_, fun S2 H2 M2 e2 A2 => ⟨vs, ex_t A2.ex (ex_t e2 ha), Nat.le_of_eq rl.length.symm⟩⟩⟩
    obtain ⟨x, hx, rx⟩ := rl.getD hi
    refine ⟨⟨vs, x, ex_t A2.ex (ex_t e2 ha), hx⟩, fun y H3 ⟨e3, hy⟩ => ?_⟩
    subst e3
    have z := hy vs (ex_t A2.ex (ex_t e2 ha))
    rw [hx] at z
    cases z
    exact ⟨S2, Ex.refl _, A2, rx.mono e2⟩
def rangeD (lo : Int) (n : Nat) : List D := (List.range n).map fun (i : Nat) => D.int (lo + (i : Int))
theorem rangeD_length {lo : Int} {n : Nat} : (rangeD lo n).length = n := by
  unfold rangeD
  rw [List.length_map, List.length_range]
theorem rangeD_get {lo : Int} {n i : Nat} {d : D} (h : (rangeD lo n)[i]? = some d) : i < n ∧ d = .int (lo + (i : Int)) := by
  have hi : i < n := by have := (List.getElem?_eq_some_iff.mp h).1; rw [rangeD_length] at this; exact this
  unfold rangeD at h
  rw [List.getElem?_map, List.getElem?_range hi] at h
  exact ⟨hi, (Option.some.inj h).symm⟩
theorem itOk_range {S : Hp} {lo : Int} {n : Nat} : ItOk K S (rangeD lo n) (Itr lo n) := ⟨fun i d S2 H2 M2 hi e2 A2 => by
    obtain ⟨h1, rfl⟩ := rangeD_get hi
    refine ⟨h1, fun x H3 ⟨e3, hx⟩ => ?_⟩
    subst e3 hx
    exact ⟨S2, Ex.refl _, A2, Rp.int⟩, fun S2 H2 M2 e2 A2 => Nat.le_of_eq rangeD_length.symm⟩
theorem ei_rng1 {ta : TA} {Q : List D → Sd → Prop} (h : Ea K ta s fun xs s' => ∃ n : Int, xs = [.int n] ∧ -(2 ^ 62) ≤ n ∧ n < 2 ^ 62 ∧ Q (rangeD 0 n.toNat) s') : Ei K (iRng1 ta) s Q := fun S H σ A r R k =>
  h S H σ A r _ fun d s' vs S' H' q e A' r' rv => by
    obtain ⟨n, rfl, h1, h2, hl⟩ := q
    obtain ⟨v, rr, rfl, rv1, rv2⟩ := rv.cons_of
    obtain rfl := rv2.nil_of
    obtain rfl := rv1.int_of
    exact ⟨n, rfl, h1, h2, k _ s' _ S' H' hl e A' r' itOk_range⟩
theorem ei_rng2 {ta : TA} {Q : List D → Sd → Prop} (h : Ea K ta s fun xs s' => ∃ i n : Int, xs = [.int i, .int n] ∧ (-(2 ^ 62) ≤ i ∧ i < 2 ^ 62 ∧ -(2 ^ 62) ≤ n ∧ n < 2 ^ 62) ∧ Q (rangeD i (n - i).toNat) s') : Ei K (iRng2 ta) s Q := fun S H σ A r R k =>
  h S H σ A r _ fun d s' vs S' H' q e A' r' rv => by
    obtain ⟨i, n, rfl, h1, hl⟩ := q
    obtain ⟨v, rr, rfl, rv1, rv2⟩ := rv.cons_of
    obtain ⟨v', rr', rfl, rv3, rv4⟩ := rv2.cons_of
    obtain rfl := rv4.nil_of
    obtain rfl := rv1.int_of
    obtain rfl := rv3.int_of
    exact ⟨i, n, rfl, h1, k _ s' _ S' H' hl e A' r' itOk_range⟩
theorem ei_rev {ta : TA} {Q : List D → Sd → Prop} (h : Ea K ta s fun xs s' => ∃ d ds, xs = [d] ∧ asL d = some ds ∧ Q ds.reverse s') : Ei K (iRev K.K ta) s Q := fun S H σ A r R k =>
  h S H σ A r _ fun d s' vs S' H' q e A' r' rv => by
    obtain ⟨d, ds, rfl, hd, hl⟩ := q
    obtain ⟨v, rr, rfl, rv1, rv2⟩ := rv.cons_of
    obtain rfl := rv2.nil_of
    obtain ⟨a, vs, rfl, ha, rl⟩ := rv1.asL_of hd
    refine ⟨a, vs, rfl, ex_l A'.ex ha, k _ s' _ S' H' hl e A' r' ⟨fun i d S2 H2 M2 hi e2 A2 => ?_, fun S2 H2 M2 e2 A2 => by show vs.length ≤ _; rw [List.length_reverse, rl.length]; exact Nat.le_refl _⟩⟩
    have hlt : i < ds.length := by have := (List.getElem?_eq_some_iff.mp hi).1; rw [List.length_reverse] at this; exact this
    rw [List.getElem?_reverse hlt] at hi
    rw [rl.length] at hi hlt
    obtain ⟨x, hx, rx⟩ := rl.getD hi
    have hx' : vs[vs.length - 1 - i]? = some x := hx
    refine ⟨⟨hlt, vs, x, ex_l A2.ex (ex_l e2 ha), hx'⟩, fun y H3 ⟨e3, hy⟩ => ?_⟩
    subst e3
    have z := hy vs (ex_l A2.ex (ex_l e2 ha))
    rw [hx'] at z
    cases z
    exact ⟨S2, Ex.refl _, A2, rx.mono e2⟩
/-- by an invariant over the turn -/
theorem lp_inv {ds : List D} (I : Nat → Sd → Prop) (h0 : I 0 s) (hs : ∀ i x s', ds[i]? = some x → I i s' → Eg K g x s' fun s2 => Es K ts s2 { P with nx := I (i + 1), ct := I (i + 1), bk := P.nx }) (hd : ∀ s', I ds.length s' → P.nx s') : Lp K g ts P ds s := by
  have go : ∀ (xs : List D) (i : Nat) (s' : Sd), xs = ds.drop i → i ≤ ds.length → I i s' → Lp K g ts P xs s' := by
    intro xs
    induction xs with
    | nil =>
      intro i s' e hi h
      have : ds.length ≤ i := List.drop_eq_nil_iff.mp e.symm
      have e2 : i = ds.length := Nat.le_antisymm hi this
      subst e2
      exact hd s' h
    | cons x xs ih =>
      intro i s' e hi h
      have hlt : i < ds.length := by
        apply Nat.lt_of_not_le
        intro hle
        rw [List.drop_eq_nil_iff.mpr hle] at e
        cases e
      rw [List.drop_eq_getElem_cons hlt] at e
      obtain ⟨e1, e2⟩ := List.cons.inj e
      have hx : ds[i]? = some x := by rw [List.getElem?_eq_getElem hlt, e1]
      have nxt : ∀ s2, I (i + 1) s2 → Lp K g ts P xs s2 := fun s2 h2 => ih (i + 1) s2 e2 hlt h2
      intro S H σ v A r rv R k
      refine hs i x s' hx h S H σ v A r rv R fun s2 S2 H2 σ2 q => k s2 S2 H2 σ2 (q.imp nxt (fun _ _ z => z) (fun _ z => z) nxt)
  exact go ds 0 s (by rw [List.drop_zero]) (Nat.zero_le _) h0
/-- over range: the item is the turn -/
theorem lp_range {lo : Int} {n : Nat} (I : Nat → Sd → Prop) (h0 : I 0 s) (hs : ∀ i s', i < n → I i s' → Eg K g (.int (lo + (i : Int))) s' fun s2 => Es K ts s2 { P with nx := I (i + 1), ct := I (i + 1), bk := P.nx }) (hd : ∀ s', I n s' → P.nx s') : Lp K g ts P (rangeD lo n) s := by
  refine lp_inv I h0 (fun i x s' hx h => ?_) fun s' h => hd s' (by rw [rangeD_length] at h; exact h)
  obtain ⟨hi, rfl⟩ := rangeD_get hx
  exact hs i s' hi h
/-- while, by an invariant and a measure -/
theorem es_while (I : Nat → Sd → Prop) (m0 : Nat) (h0 : I m0 s) (hs : ∀ m s', I m s' → Et K t s' fun b s1 => (b = true → Es K ts s1 { P with nx := fun s2 => ∃ m', m' < m ∧ I m' s2, ct := fun s2 => ∃ m', m' < m ∧ I m' s2, bk := P.nx }) ∧ (b = false → P.nx s1)) : Es K (tWhile t ts) s P := fun S H σ N A r l => by
  refine ⟨fun m σ H => ∃ s' S', I m s' ∧ Ex S S' ∧ At K S' H s'.M ∧ RpS K.K S' s'.ρ σ, ⟨m0, s, S, h0, Ex.refl S, A, r⟩, ?_⟩
  rintro m σ1 H1 ⟨s', S', hi, e, A', r'⟩
  refine hs m s' hi S' H1 σ1 A' r' _ fun b s1 S1 H2 q e1 A1 r1 => ?_
  cases b with
  | true =>
    rw [if_pos rfl]
    refine ⟨fun σ3 H3 => ∃ s2 S2, (∃ m', m' < m ∧ I m' s2) ∧ Ex S S2 ∧ At K S2 H3 s2.M ∧ RpS K.K S2 s2.ρ σ3, fun σ3 H3 ⟨s2, S2, ⟨m', hm, h2⟩, e2, A2, r2⟩ => ⟨m', hm, s2, S2, h2, e2, A2, r2⟩, ?_⟩
    have e' := e.trans e1
    exact q.1 rfl S1 H2 σ1 _ A1 r1 ⟨fun s3 S3 H3 σ3 q3 e3 A3 r3 => ⟨s3, S3, q3, e'.trans e3, A3, r3⟩, fun d M' v S3 H3 q3 e3 => l.rt d M' v S3 H3 q3 (e'.trans e3), fun s3 S3 H3 σ3 q3 e3 => l.nx s3 S3 H3 σ3 q3 (e'.trans e3), fun s3 S3 H3 σ3 q3 e3 A3 r3 => ⟨s3, S3, q3, e'.trans e3, A3, r3⟩⟩
  | false =>
    rw [if_neg Bool.false_ne_true]
    exact l.nx s1 S1 H2 σ1 (q.2 rfl) (e.trans e1) A1 r1
end
end DL

namespace DL
open PySem L2 Evl
/-! ### comprehensions -/
def wipeD (ρ : List (Option D)) : List Nat → List (Option D)
  | [] => ρ
  | v :: vs => (wipeD ρ vs).set v none
section
variable {K : Kx} {s : Sd} {Q : D → Sd → Prop} {ta tb te tl : TE} {t u tt : TT} {d : D} {v : V} {P : Pd} {g : TG}
theorem RpS.wipe {S : Hp} {ρ : List (Option D)} {σ : St} (r : RpS K.K S ρ σ) : ∀ vs : List Nat, RpS K.K S (wipeD ρ vs) (wipe σ vs)
  | [] => r
  | v :: vs => (RpS.wipe r vs).setN v
theorem wipe_set {σ : St} {x : Option V} {j : Nat} : ∀ {vs : List Nat}, j ∈ vs → wipe (σ.set j x) vs = wipe σ vs
  | [], h => by simp at h
  | v :: vs, h => by
    unfold L2.wipe
    by_cases e : j = v
    · subst e
      by_cases hj : j ∈ vs
      · rw [wipe_set hj]
      · have go : ∀ (ws : List Nat), j ∉ ws → wipe (σ.set j x) ws = (wipe σ ws).set j x := by
          intro ws
          induction ws with
          | nil => intro _; rfl
          | cons w ws ih =>
            intro hn
            simp only [List.mem_cons, not_or] at hn
            unfold L2.wipe
            rw [ih hn.2, List.set_comm _ _ hn.1]
        rw [go vs hj, List.set_set]
    · have hj : j ∈ vs := by
        rcases List.mem_cons.mp h with z | z
        · exact absurd z e
        · exact z
      rw [wipe_set hj]
theorem wipe_wipe {σ : St} {vs : List Nat} : wipe (wipe σ vs) vs = wipe σ vs := by
  have go : ∀ (ws : List Nat), (∀ j ∈ ws, j ∈ vs) → wipe (wipe σ ws) vs = wipe σ vs := by
    intro ws
    induction ws with
    | nil => intro _; rfl
    | cons w ws ih =>
      intro h
      show wipe ((wipe σ ws).set w none) vs = _
      rw [wipe_set (h w List.mem_cons_self)]
      exact ih fun j hj => h j (List.mem_cons_of_mem _ hj)
  exact go vs fun _ h => h
/-- a target that stores the block's own names alone -/
def Wp (g : TG) (vs : List Nat) : Prop := ∀ v σ0 σ H R, wipe σ vs = wipe σ0 vs → g v σ H R → g v σ H fun σ2 H2 => wipe σ2 vs = wipe σ0 vs ∧ R σ2 H2
def Wps (g : TGs) (vs : List Nat) : Prop := ∀ us σ0 σ H R, wipe σ vs = wipe σ0 vs → g us σ H R → g us σ H fun σ2 H2 => wipe σ2 vs = wipe σ0 vs ∧ R σ2 H2
theorem wp_name {j : Nat} {vs : List Nat} (h : j ∈ vs) : Wp (gName j) vs := fun v σ0 σ H R e k => ⟨(wipe_set h).trans e, k⟩
theorem wps_nil {vs : List Nat} : Wps gNil vs := fun us σ0 σ H R e k => ⟨k.1, e, k.2⟩
theorem wp_tup {K' : PySem.W.Frag} {n : Nat} {gs : TGs} {vs : List Nat} (h : Wps gs vs) : Wp (gTup K' n gs) vs := fun v σ0 σ H R e k => by
  obtain ⟨a, xs, h1, h2, h3, k⟩ := k
  exact ⟨a, xs, h1, h2, h3, h xs σ0 σ H R e k⟩
/-- the block's loop: the list at p so far -/
def Lc (K : Kx) (g : TG) (tt : TT) (te : TE) (ρ ρw : List (Option D)) (Q : D → Sd → Prop) (p : Addr) : List D → List D → MM → Prop
  | [], acc, M => M p = some (.lst acc) ∧ Q (.lst acc) ⟨ρ, delM M p⟩
  | x :: xs, acc, M => M p = some (.lst acc) ∧ Eg K g x ⟨ρw, M⟩ fun s2 => Et K tt s2 fun b s3 =>
      (b = true → Ed K te s3 fun y s4 => s4.M p = some (.lst acc) ∧ acc.length < sizeLine ∧ Lc K g tt te ρ ρw Q p xs (acc ++ [y]) (updM s4.M p (.lst (acc ++ [y])))) ∧ (b = false → s3.M p = some (.lst acc) ∧ Lc K g tt te ρ ρw Q p xs acc s3.M)
theorem ed_lc {wi : TI} {vs : List Nat} (hw : Wp g vs) (h : Ei K wi s fun ds s' => ∀ p, s'.M p = none → Lc K g tt te s'.ρ (wipeD s'.ρ vs) Q p ds [] (updM s'.M p (.lst []))) : Ed K (tLc wi g tt te vs) s Q := fun S H σ A r R k =>
  h S H σ A r _ fun ds s' J S' H' q e A' r' hJ => by
    intro p hp
    have q := q p (A'.free hp)
    have A0 : At K S' (upd H' p (.lst [])) (updM s'.M p (.lst [])) := A'.newM hp (o := .lst []) (m := .lst []) (show RpL K.K S' [] [] from RpL.nil)
    refine ⟨fun i m H => m = ds.length - i ∧ i ≤ ds.length ∧ ∃ acc M1 S2, Lc K g tt te s'.ρ (wipeD s'.ρ vs) Q p (ds.drop i) acc M1 ∧ Ex S' S2 ∧ At K S2 H M1, ⟨ds.length, rfl, Nat.zero_le _, [], _, S', by rw [List.drop_zero]; exact q, Ex.refl _, A0⟩, ?_⟩
    rintro i m H1 ⟨rfl, hi, acc, M1, S1, hl, e1, A1⟩
    by_cases hlt : i < ds.length
    · rw [List.drop_eq_getElem_cons hlt] at hl
      obtain ⟨hm, hl⟩ := hl
      obtain ⟨g1, g2⟩ := hJ.go i _ S1 H1 _ (List.getElem?_eq_getElem hlt) e1 A1
      refine .inr ⟨g1, fun H => ∃ acc M1 S2, Lc K g tt te s'.ρ (wipeD s'.ρ vs) Q p (ds.drop (i + 1)) acc M1 ∧ Ex S' S2 ∧ At K S2 H M1, fun H' p' => ⟨ds.length - (i + 1), by omega, rfl, hlt, p'⟩, fun x H2 y => ?_⟩
      obtain ⟨S2, e2, A2, rx⟩ := g2 x H2 y
      refine hw x σ _ H2 _ wipe_wipe (hl S2 H2 _ x A2 ((r'.mono (e1.trans e2)).wipe vs) rx _ fun s3 S3 H3 σ3 q3 e3 A3 r3 => ?_)
      refine q3 S3 H3 σ3 A3 r3 _ fun b s4 S4 H4 q4 e4 A4 r4 => ?_
      have e' := ((e1.trans e2).trans e3).trans e4
      cases b with
      | true =>
        rw [if_pos rfl]
        refine q4.1 rfl S4 H4 σ3 A4 r4 _ fun y s5 v5 S5 H5 q5 e5 A5 r5 ry => ?_
        obtain ⟨hm5, hz, hn⟩ := q5
        obtain ⟨_, o, hu, ro⟩ := A5.mm p _ hm5
        obtain ⟨us, rfl, rl⟩ := ro.lst_of
        refine ⟨us, hu, by rw [← rl.length]; exact hz, _, _, S5, hn, e'.trans e5, ?_⟩
        exact A5.put hm5 (o := .lst (us ++ [v5])) (m := .lst (acc ++ [y])) (rl.append (RpL.cons ry RpL.nil))
      | false =>
        rw [if_neg Bool.false_ne_true]
        exact ⟨acc, s4.M, S4, (q4.2 rfl).2, e', A4⟩
    · have e2 : i = ds.length := by omega
      subst e2
      rw [List.drop_length] at hl
      obtain ⟨hm, hq⟩ := hl
      obtain ⟨S2, o, A2, e2, ho, ro⟩ := A1.freeze hm
      obtain ⟨us, rfl, rl⟩ := ro.lst_of
      have e' := (e.trans e1).trans e2
      exact .inl ⟨hJ.stop S1 H1 _ e1 A1, k (.lst acc) ⟨s'.ρ, delM M1 p⟩ _ S2 H1 hq e' A2 (r'.mono (e1.trans e2)) (Rp.lst ho (RpL.mono e2 _ _ rl))⟩
theorem et_yes {Q : Bool → Sd → Prop} (h : Q true s) : Et K tYes s Q := fun S H σ A r R k => k true s S H h (Ex.refl S) A r
/-- a block whose turns change nothing: the items are filtered and mapped by f -/
theorem ed_lcP {wi : TI} {vs : List Nat} (f : D → Option D) (hw : Wp g vs) (h : Ei K wi s fun ds s' => ds.length ≤ sizeLine ∧ (∀ x ∈ ds, ∀ M, (∀ a o, s'.M a = some o → M a = some o) → Eg K g x ⟨wipeD s'.ρ vs, M⟩ fun s2 => Et K tt s2 fun b s3 =>
    (b = true → Ed K te s3 fun y s4 => s4.M = M ∧ f x = some y) ∧ (b = false → s3.M = M ∧ f x = none)) ∧ Q (.lst (ds.filterMap f)) s') : Ed K (tLc wi g tt te vs) s Q := by
  refine ed_lc hw ?_
  intro S H σ A r R k
  refine h S H σ A r R fun ds s' J S' H' q e A' r' hJ => k ds s' J S' H' ?_ e A' r' hJ
  obtain ⟨hz, hx, q⟩ := q
  intro p hp
  have go : ∀ (xs pre : List D), pre ++ xs = ds → Lc K g tt te s'.ρ (wipeD s'.ρ vs) Q p xs (pre.filterMap f) (updM s'.M p (.lst (pre.filterMap f))) := by
    intro xs
    induction xs with
    | nil =>
      intro pre e
      rw [List.append_nil] at e
      subst e
      refine ⟨updM_same, ?_⟩
      rw [delM_updM hp]
      exact q
    | cons x xs ih =>
      intro pre e
      refine ⟨updM_same, ?_⟩
      have hmem : x ∈ ds := by rw [← e]; simp
      have hlen : (pre.filterMap f).length < sizeLine := by
        have h1 := List.length_filterMap_le f pre
        have h2 : pre.length < ds.length := by rw [← e]; simp
        omega
      intro S1 H1 σ1 v1 A1 r1 rv1 R1 k1
      refine hx x hmem _ (fun a o ha => updM_get (mm_ne ha hp) ha) S1 H1 σ1 v1 A1 r1 rv1 R1 fun s2 S2 H2 σ2 q2 e2 A2 r2 => k1 s2 S2 H2 σ2 ?_ e2 A2 r2
      refine q2.imp fun b s3 q3 => ⟨fun hb => (q3.1 hb).imp fun y s4 q4 => ?_, fun hb => ?_⟩
      · obtain ⟨hM, hf⟩ := q4
        refine ⟨by rw [hM]; exact updM_same, hlen, ?_⟩
        rw [hM, updM_updM]
        have := ih (pre ++ [x]) (by rw [List.append_assoc]; exact e)
        rw [List.filterMap_append, List.filterMap_cons, hf] at this
        exact this
      · obtain ⟨hM, hf⟩ := q3.2 hb
        rw [hM]
        refine ⟨updM_same, ?_⟩
        have := ih (pre ++ [x]) (by rw [List.append_assoc]; exact e)
        rw [List.filterMap_append, List.filterMap_cons, hf] at this
        simp only [List.filterMap_nil, List.append_nil] at this
        exact this
  exact go ds [] rfl
/-- .. without a test: mapped by f -/
theorem filterMap_some {α β : Type} (f : α → β) : ∀ l : List α, l.filterMap (fun x => some (f x)) = l.map f
  | [] => rfl
  | x :: l => by rw [List.filterMap_cons, List.map_cons, filterMap_some f l]
theorem ed_lcM {wi : TI} {vs : List Nat} (f : D → D) (hw : Wp g vs) (h : Ei K wi s fun ds s' => ds.length ≤ sizeLine ∧ (∀ x ∈ ds, ∀ M, (∀ a o, s'.M a = some o → M a = some o) → Eg K g x ⟨wipeD s'.ρ vs, M⟩ fun s2 => Ed K te s2 fun y s4 => s4.M = M ∧ y = f x) ∧ Q (.lst (ds.map f)) s') : Ed K (tLc wi g tYes te vs) s Q := by
  refine ed_lcP (fun x => some (f x)) hw ?_
  intro S H σ A r R k
  refine h S H σ A r R fun ds s' J S' H' q e A' r' hJ => k ds s' J S' H' ?_ e A' r' hJ
  obtain ⟨hz, hx, q⟩ := q
  refine ⟨hz, fun x hm M hM => ?_, ?_⟩
  · intro S1 H1 σ1 v1 A1 r1 rv1 R1 k1
    refine hx x hm M hM S1 H1 σ1 v1 A1 r1 rv1 R1 fun s2 S2 H2 σ2 q2 e2 A2 r2 => k1 s2 S2 H2 σ2 ?_ e2 A2 r2
    exact et_yes ⟨fun _ => q2.imp fun y s4 q4 => ⟨q4.1, by rw [q4.2]⟩, fun z => by cases z⟩
  · rw [filterMap_some]; exact q

/-! ### calls -/
/-- what a def does, over data: arguments, mutable objects, what is wanted -/
abbrev DSp := List D → MM → (D → MM → Prop) → Prop
def spOf (K : PySem.W.Frag) (T : DSp) : Sp := fun vs H Q _ => ∃ S M ds R, At0 K S H M ∧ RpL K S ds vs ∧ T ds M R ∧ ∀ d M' v S' H', R d M' → Ex S S' → At0 K S' H' M' → Rp K S' d v → Q v H'
/-- .. that may let exceptions out -/
abbrev DSpX := List D → MM → (D → MM → Prop) → (XC → MM → Prop) → Prop
def spOfX (K : PySem.W.Frag) (T : DSpX) : Sp := fun vs H Q E => ∃ S M ds R RX, At0 K S H M ∧ RpL K S ds vs ∧ T ds M R RX ∧ (∀ d M' v S' H', R d M' → Ex S S' → At0 K S' H' M' → Rp K S' d v → Q v H') ∧
  ∀ x M' d S' H', RX x M' → Ex S S' → At0 K S' H' M' → RpX K S' x d → E x.cls d H'
theorem ed_call {T : DSp} {E : XK} {tr : TA} (h : Ea K tr s fun ds s1 => T ds s1.M fun d M' => Q d ⟨s1.ρ, M'⟩) : Ed K (tCall (spOf K.K T) [] E tr) s Q := fun S H σ A r R k =>
  h S H σ A r _ fun ds s1 vs S1 H1 h1 e1 A1 r1 rv => by
    refine ⟨S1, s1.M, ds, _, A1.toAt0, by rw [List.append_nil]; exact rv, h1, fun d M' v S' H' hq e A' rd => ?_⟩
    exact k d ⟨s1.ρ, M'⟩ v S' H' hq (e1.trans e) (A'.up A1.xl e) (r1.mono e) rd
theorem ed_callX {T : DSpX} {tr : TA} {W : WX} {F : PySem.W.Frag} {XQ : XC → Sd → Prop} (h : Ea ⟨F, W, XQ⟩ tr s fun ds s1 => T ds s1.M (fun d M' => Q d ⟨s1.ρ, M'⟩) fun x M' => XQ x ⟨s1.ρ, M'⟩) : Ed ⟨F, W, XQ⟩ (tCallS (spOfX F T) (WE W) tr) s Q := fun S H σ A r R k =>
  h S H σ A r _ fun ds s1 vs S1 H1 h1 e1 A1 r1 rv => by
    refine ⟨S1, s1.M, ds, _, _, A1.toAt0, rv, h1, fun d M' v S' H' hq e A' rd => ?_, fun x M' d S' H' hq e A' rd => ?_⟩
    · exact k d ⟨s1.ρ, M'⟩ v S' H' hq (e1.trans e) (A'.up A1.xl e) (r1.mono e) rd
    · exact A1.xl x ⟨s1.ρ, M'⟩ S' H' σ d hq e A' (r1.mono e) rd
theorem spOf.imp {K : PySem.W.Frag} {T T' : DSp} (h : ∀ ds M R, T' ds M R → T ds M R) : ∀ vs H Q E, spOf K T' vs H Q E → spOf K T vs H Q E := fun vs H Q E ⟨S, M, ds, R, A, r, t, k⟩ => ⟨S, M, ds, R, A, r, h _ _ _ t, k⟩
theorem spOfX.imp {K : PySem.W.Frag} {T T' : DSpX} (h : ∀ ds M R RX, T' ds M R RX → T ds M R RX) : ∀ vs H Q E, spOfX K T' vs H Q E → spOfX K T vs H Q E := fun vs H Q E ⟨S, M, ds, R, RX, A, r, t, k⟩ => ⟨S, M, ds, R, RX, A, r, h _ _ _ _ t, k⟩
def startD (N : List Str) (ds : List D) : List (Option D) := ds.map some ++ List.replicate (N.length - ds.length) none
theorem okD {P : Program} {w : World} {K : PySem.W.Frag} {mg : Str → Option Value} {base : Heap} {x qual : Str} {st : Stmt} {f : Addr} {fd : FuncData} {N ps : List Str} {k : Nat} {T : DSp} (F : Fun K x qual st f fd) (S : FnScope N ps (defScope st)) (len : ∀ ds M R, T ds M R → ds.length = ps.length)
    (hbody : ∀ (cdv : Value) (A : Around) (outer : List Env) (s : Shared) (H : Hp) (E : XK), Room k (A.deeper (PyProof.Rows.envOfC qual (defScope st) s.heap.objs.size f cdv)) →
      ∃ t, PSs (cxOf CX0 P w K mg base N qual (defScope st) f cdv A outer s H E).nox (defBody st) t ∧ ∀ ds M R, T ds M R → Es (Kx.no K) t ⟨startD N ds, M⟩ { nx := fun s' => R .non s'.M, rt := R }) : FnOk P w K mg base CX0 (k + 1) f fd ps (spOf K T) := by
  refine F.ok S (fun vs H Q E h => ?_) (fun cdv A outer s H vs Q E hr h => ?_)
  · obtain ⟨S, M, ds, R, _, r, t, _⟩ := h
    rw [← r.length]
    exact len _ _ _ t
  · obtain ⟨t, hp, ht⟩ := hbody cdv A outer s H E hr
    obtain ⟨S0, M, ds, R, A0, r, hT, k⟩ := h
    refine ⟨t, hp, ht ds M R hT S0 H _ _ ⟨A0, XL.no⟩ ?_ ⟨fun s' S' H' σ' q e A' r' => k .non s'.M _ S' H' q e A'.toAt0 Rp.non, fun d M' v S' H' q e A' rv => k d M' v S' H' q e A'.toAt0 rv, fun _ _ _ _ q => q.elim, fun _ _ _ _ q => q.elim⟩⟩
    unfold startD L2.start
    rw [r.length]
    exact RpS.start _ r
abbrev Kx.out (K : PySem.W.Frag) (E : XK) (RX : XC → MM → Prop) : Kx := ⟨K, fun cls d _ H => E cls d H, fun x s' => RX x s'.M⟩
theorem okX {P : Program} {w : World} {K : PySem.W.Frag} {mg : Str → Option Value} {base : Heap} {x qual : Str} {st : Stmt} {f : Addr} {fd : FuncData} {N ps : List Str} {k : Nat} {T : DSpX} (F : Fun K x qual st f fd) (S : FnScope N ps (defScope st)) (len : ∀ ds M R RX, T ds M R RX → ds.length = ps.length)
    (hbody : ∀ (cdv : Value) (A : Around) (outer : List Env) (s : Shared) (H : Hp) (E : XK), Room k (A.deeper (PyProof.Rows.envOfC qual (defScope st) s.heap.objs.size f cdv)) →
      ∃ t, PSs (cxOf (L2.CX P w) P w K mg base N qual (defScope st) f cdv A outer s H E) (defBody st) t ∧ ∀ ds M R RX, T ds M R RX → Es (Kx.out K E RX) t ⟨startD N ds, M⟩ { nx := fun s' => R .non s'.M, rt := R }) : FnOk P w K mg base (L2.CX P w) (k + 1) f fd ps (spOfX K T) := by
  refine F.okX S (fun vs H Q E h => ?_) (fun cdv A outer s H vs Q E hr h => ?_)
  · obtain ⟨S, M, ds, R, RX, _, r, t, _⟩ := h
    rw [← r.length]
    exact len _ _ _ _ t
  · obtain ⟨t, hp, ht⟩ := hbody cdv A outer s H E hr
    obtain ⟨S0, M, ds, R, RX, A0, r, hT, k, kx⟩ := h
    refine ⟨t, hp, ht ds M R RX hT S0 H _ _ ⟨A0, fun x s' S' H' σ' d q e A' r' rx => kx x s'.M d S' H' q e A' rx⟩ ?_ ⟨fun s' S' H' σ' q e A' r' => k .non s'.M _ S' H' q e A'.toAt0 Rp.non, fun d M' v S' H' q e A' rv => k d M' v S' H' q e A'.toAt0 rv, fun _ _ _ _ q => q.elim, fun _ _ _ _ q => q.elim⟩⟩
    unfold startD L2.start
    rw [r.length]
    exact RpS.start _ r
/-- raise, of an own class made with a text -/
theorem es_raise {C : Value} {F : PySem.W.Frag} {W : WX} {XQ : XC → Sd → Prop} (h : XQ ⟨C, none⟩ s) : Es ⟨F, W, XQ⟩ (fun _ σ H => W C none σ H) s P := fun S H σ N A r l =>
  A.xl ⟨C, none⟩ s S H σ none h (Ex.refl S) A.toAt0 r rfl
end
end DL

namespace DL
open PySem L2 Evl
/-! ### a def of the module, by what it does over data -/
structure Df (P : Program) (w : World) (K : PySem.W.Frag) (mg : Str → Option Value) (base : Heap) (k : Nat) (x : Str) (n : Nat) (T : DSp) : Prop where
  ex : ∃ (f : Addr) (fd : FuncData) (ps : List Str), ps.length = n ∧ FnOk P w K mg base CX0 k f fd ps (spOf K T) ∧ mg x = some (.ref f) ∧ PySem.W.keepIn K (.ref f) = true ∧ Binds K fd ps []
section
variable {X : Cx} {k n : Nat} {T : DSp} {x : Str} {p pos : Pos} {e : Expr} {es : List Expr} {t : TA}
theorem pe_callD (F : Df X.prog X.w X.K X.mg X.base k x n T) (hr : Room k X.A) (hg : Gl X x) (ha : PA X (e :: es) t) (hdb : (x == ("__debug__" : Str)) = false := by decide)
    (he : starEach (e :: es) X.env = (false, eval e X.env) :: starEach es X.env := by rfl) (hpl : (backTo pos (starEach es X.env)).any (·.1) = false := by rfl) : PE X (.Call (.Name x p) (e :: es) [] pos) (tCall (spOf X.K T) [] E0 t) := by
  obtain ⟨f, fd, ps, hn, G, hm, kp, b⟩ := F.ex
  exact pe_call G hr hg hm kp b .nil pass0 ha hdb he hpl
theorem pe_callD0 (F : Df X.prog X.w X.K X.mg X.base k x n T) (hr : Room k X.A) (hg : Gl X x) (hdb : (x == ("__debug__" : Str)) = false := by decide) : PE X (.Call (.Name x p) [] [] pos) (tCall (spOf X.K T) [] E0 tNil) := by
  obtain ⟨f, fd, ps, hn, G, hm, kp, b⟩ := F.ex
  exact pe_call0 G hr hg hm kp b .nil pass0 hdb
end
/-- .. a def that may let exceptions out -/
structure DfX (P : Program) (w : World) (K : PySem.W.Frag) (mg : Str → Option Value) (base : Heap) (k : Nat) (x : Str) (n : Nat) (T : DSpX) : Prop where
  ex : ∃ (f : Addr) (fd : FuncData) (ps : List Str), ps.length = n ∧ FnOk P w K mg base (L2.CX P w) k f fd ps (spOfX K T) ∧ mg x = some (.ref f) ∧ PySem.W.keepIn K (.ref f) = true ∧ Binds K fd ps []
section
variable {X : Cx} {k n : Nat} {T : DSpX} {x : Str} {p pos : Pos} {e : Expr} {es : List Expr} {t : TA} {W : WX}
theorem pe_callX (F : DfX X.prog X.w X.K X.mg X.base k x n T) (hr : Room k X.A) (tk : Takes X W) (hg : Gl X x) (ha : PA X (e :: es) t) (hdb : (x == ("__debug__" : Str)) = false := by decide)
    (he : starEach (e :: es) X.env = (false, eval e X.env) :: starEach es X.env := by rfl) (hpl : (backTo pos (starEach es X.env)).any (·.1) = false := by rfl) : PE X (.Call (.Name x p) (e :: es) [] pos) (tCallS (spOfX X.K T) (WE W) t) := by
  obtain ⟨f, fd, ps, hn, G, hm, kp, b⟩ := F.ex
  exact pe_callS G hr hg hm kp b (fun σ => passAt tk σ) ha hdb he hpl
end
theorem DfX.imp {P : Program} {w : World} {K : PySem.W.Frag} {mg : Str → Option Value} {base : Heap} {k n : Nat} {x : Str} {T T' : DSpX} (F : DfX P w K mg base k x n T) (h : ∀ ds M R RX, T' ds M R RX → T ds M R RX) : DfX P w K mg base k x n T' := by
  obtain ⟨f, fd, ps, hn, G, hm, kp, b⟩ := F.ex
  exact ⟨f, fd, ps, hn, G.imp (spOfX.imp h), hm, kp, b⟩
theorem DfX.mono {P : Program} {w : World} {K : PySem.W.Frag} {mg : Str → Option Value} {base : Heap} {j k n : Nat} {x : Str} {T : DSpX} (F : DfX P w K mg base j x n T) (h : j ≤ k) : DfX P w K mg base k x n T := by
  obtain ⟨f, fd, ps, hn, G, hm, kp, b⟩ := F.ex
  exact ⟨f, fd, ps, hn, G.mono h, hm, kp, b⟩
theorem Df.imp {P : Program} {w : World} {K : PySem.W.Frag} {mg : Str → Option Value} {base : Heap} {k n : Nat} {x : Str} {T T' : DSp} (F : Df P w K mg base k x n T) (h : ∀ ds M R, T' ds M R → T ds M R) : Df P w K mg base k x n T' := by
  obtain ⟨f, fd, ps, hn, G, hm, kp, b⟩ := F.ex
  exact ⟨f, fd, ps, hn, G.imp (spOf.imp h), hm, kp, b⟩
theorem Df.mono {P : Program} {w : World} {K : PySem.W.Frag} {mg : Str → Option Value} {base : Heap} {j k n : Nat} {x : Str} {T : DSp} (F : Df P w K mg base j x n T) (h : j ≤ k) : Df P w K mg base k x n T := by
  obtain ⟨f, fd, ps, hn, G, hm, kp, b⟩ := F.ex
  exact ⟨f, fd, ps, hn, G.mono h, hm, kp, b⟩
/-- a def as the top has left it -/
structure Dl (K : PySem.W.Frag) (mg : Str → Option Value) (x : Str) (st : Stmt) : Prop where
  ex : ∃ (f : Addr) (fd : FuncData), Fun K x x st f fd ∧ mg x = some (.ref f)
theorem Dl.ok {P : Program} {w : World} {K : PySem.W.Frag} {mg : Str → Option Value} {base : Heap} {x : Str} {st : Stmt} {N ps : List Str} {k : Nat} {T : DSp} (F : Dl K mg x st) (S : FnScope N ps (defScope st)) (len : ∀ ds M R, T ds M R → ds.length = ps.length)
    (hbind : ∀ (kV doc pm : Value) (an : Option Addr) (cdv ct : Value) (us : List Value), us.length = ps.length → bindArgs (PySem.W.fnOf x x (defArgs st) (defBody st) (defScope st) .none kV doc pm an cdv ct) ⟨us, []⟩ = pure (ps.zip us))
    (hbody : ∀ (f : Addr) (cdv : Value) (A : Around) (outer : List Env) (s : Shared) (H : Hp) (E : XK), Room k (A.deeper (PyProof.Rows.envOfC x (defScope st) s.heap.objs.size f cdv)) →
      ∃ t, PSs (cxOf CX0 P w K mg base N x (defScope st) f cdv A outer s H E).nox (defBody st) t ∧ ∀ ds M R, T ds M R → Es (Kx.no K) t ⟨startD N ds, M⟩ { nx := fun s' => R .non s'.M, rt := R }) : Df P w K mg base (k + 1) x ps.length T := by
  obtain ⟨f, fd, Fn, hm⟩ := F.ex
  exact ⟨f, fd, ps, rfl, okD Fn S len (fun cdv A outer s H E hr => hbody f cdv A outer s H E hr), hm, Fn.kp, Fn.binds hbind⟩
theorem Dl.okX {P : Program} {w : World} {K : PySem.W.Frag} {mg : Str → Option Value} {base : Heap} {x : Str} {st : Stmt} {N ps : List Str} {k : Nat} {T : DSpX} (F : Dl K mg x st) (S : FnScope N ps (defScope st)) (len : ∀ ds M R RX, T ds M R RX → ds.length = ps.length)
    (hbind : ∀ (kV doc pm : Value) (an : Option Addr) (cdv ct : Value) (us : List Value), us.length = ps.length → bindArgs (PySem.W.fnOf x x (defArgs st) (defBody st) (defScope st) .none kV doc pm an cdv ct) ⟨us, []⟩ = pure (ps.zip us))
    (hbody : ∀ (f : Addr) (cdv : Value) (A : Around) (outer : List Env) (s : Shared) (H : Hp) (E : XK), Room k (A.deeper (PyProof.Rows.envOfC x (defScope st) s.heap.objs.size f cdv)) →
      ∃ t, PSs (cxOf (L2.CX P w) P w K mg base N x (defScope st) f cdv A outer s H E) (defBody st) t ∧ ∀ ds M R RX, T ds M R RX → Es (Kx.out K E RX) t ⟨startD N ds, M⟩ { nx := fun s' => R .non s'.M, rt := R }) : DfX P w K mg base (k + 1) x ps.length T := by
  obtain ⟨f, fd, Fn, hm⟩ := F.ex
  exact ⟨f, fd, ps, rfl, DL.okX Fn S len (fun cdv A outer s H E hr => hbody f cdv A outer s H E hr), hm, Fn.kp, Fn.binds hbind⟩
theorem dl_mk {K : PySem.W.Frag} {h : Heap} {mg : Str → Option Value} (X : K.In h) (G : h.Ns mainGlobals mg) {x : Str} {st : Stmt} {f : Addr} {oc : Value} {od an : Option Addr} {osl : Array (Option Value)} {kV doc pm cdv ct : Value} (a : PySem.W.nsIn K mainGlobals x = some (some (.ref f)))
    (l : K.lookup f = some ⟨oc, od, .func (PySem.W.fnOf x x (defArgs st) (defBody st) (defScope st) .none kV doc pm an cdv ct), osl⟩) (c : PySem.W.codeIn K cdv x = true) (k : PySem.W.keepIn K (.ref f) = true) : Dl K mg x st :=
  ⟨f, _, fun_mk l c k, PySem.W.mg_of X G a⟩
end DL

namespace DL
open PySem L2 Evl
/-! ### words: the rules by their heads -/
def I1 (x : D) (k : Int → Prop) : Prop := ∃ i, x = .int i ∧ k i
def I2 (x y : D) (k : Int → Int → Prop) : Prop := ∃ i j, x = .int i ∧ y = .int j ∧ k i j
def S1 (x : D) (k : Str → Prop) : Prop := ∃ i, x = .str i ∧ k i
def S2 (x y : D) (k : Str → Str → Prop) : Prop := ∃ i j, x = .str i ∧ y = .str j ∧ k i j
def B1 (x : D) (k : Bool → Prop) : Prop := ∃ b, x = .bl b ∧ k b
def Sc (c k : Prop) : Prop := c ∧ k
def Br (b : Bool) (A B : Prop) : Prop := (b = true → A) ∧ (b = false → B)
/-- a list that is read: frozen, or mutable -/
def L1 (M : MM) (x : D) (k : List D → Prop) : Prop := ∃ xs, (seqL x = some xs ∨ ∃ a, x = .adr a ∧ M a = some (.lst xs)) ∧ k xs
def LL1 (M : MM) (x : D) (k : List D → Prop) : Prop := ∃ xs, (asL x = some xs ∨ ∃ a, x = .adr a ∧ M a = some (.lst xs)) ∧ k xs
def F1 (x : D) (k : List D → Prop) : Prop := ∃ xs, asL x = some xs ∧ k xs
def T1 (x : D) (k : List D → Prop) : Prop := ∃ xs, x = .tup xs ∧ k xs
def N1 (x : D) (k : List D → Prop) : Prop := ∃ xs, x = .lst xs ∧ k xs
def M1 (M : MM) (x : D) (k : Addr → List D → Prop) : Prop := ∃ a xs, x = .adr a ∧ M a = some (.lst xs) ∧ k a xs
def G1 (M : MM) (a : Addr) (k : List D → Prop) : Prop := ∃ xs, M a = some (.lst xs) ∧ k xs
def At1 (xs : List D) (i : Int) (k : D → Prop) : Prop := ∃ d, atI xs i = some d ∧ k d
theorem i1 {i : Int} {k : Int → Prop} (h : k i) : I1 (.int i) k := ⟨i, rfl, h⟩
theorem i2 {i j : Int} {k : Int → Int → Prop} (h : k i j) : I2 (.int i) (.int j) k := ⟨i, j, rfl, rfl, h⟩
theorem s1 {i : Str} {k : Str → Prop} (h : k i) : S1 (.str i) k := ⟨i, rfl, h⟩
theorem s2 {i j : Str} {k : Str → Str → Prop} (h : k i j) : S2 (.str i) (.str j) k := ⟨i, j, rfl, rfl, h⟩
theorem b1 {i : Bool} {k : Bool → Prop} (h : k i) : B1 (.bl i) k := ⟨i, rfl, h⟩
theorem sc {c k : Prop} (hc : c) (h : k) : Sc c k := ⟨hc, h⟩
theorem br_dec {p : Prop} [Decidable p] {A B : Prop} (h1 : p → A) (h2 : ¬ p → B) : Br (decide p) A B := ⟨fun h => h1 (of_decide_eq_true h), fun h => h2 (of_decide_eq_false h)⟩
theorem br_pos {p : Prop} [Decidable p] {A B : Prop} (hp : p) (h : A) : Br (decide p) A B := br_dec (fun _ => h) fun z => absurd hp z
theorem br_neg {p : Prop} [Decidable p] {A B : Prop} (hp : ¬ p) (h : B) : Br (decide p) A B := br_dec (fun z => absurd z hp) fun _ => h
theorem br_not {b : Bool} {A B : Prop} (h : Br b B A) : Br (!b) A B := ⟨fun e => h.2 (by simpa using e), fun e => h.1 (by simpa using e)⟩
theorem br_true {A B : Prop} (h : A) : Br true A B := ⟨fun _ => h, fun z => (by cases z)⟩
theorem br_false {A B : Prop} (h : B) : Br false A B := ⟨fun z => (by cases z), fun _ => h⟩
theorem br_and {a b : Bool} {A B : Prop} (h : Br a (Br b A B) B) : Br (a && b) A B := by
  cases a
  · exact br_false (h.2 rfl)
  · exact h.1 rfl
theorem l1_lst {M : MM} {xs : List D} {k : List D → Prop} (h : k xs) : L1 M (.lst xs) k := ⟨xs, .inl rfl, h⟩
theorem l1_frz {M : MM} {xs : List D} {k : List D → Prop} (h : k xs) : L1 M (.frz xs) k := ⟨xs, .inl rfl, h⟩
theorem l1_tup {M : MM} {xs : List D} {k : List D → Prop} (h : k xs) : L1 M (.tup xs) k := ⟨xs, .inl rfl, h⟩
theorem l1_adr {M : MM} {a : Addr} {xs : List D} {k : List D → Prop} (e : M a = some (.lst xs)) (h : k xs) : L1 M (.adr a) k := ⟨xs, .inr ⟨a, rfl, e⟩, h⟩
theorem ll1_lst {M : MM} {xs : List D} {k : List D → Prop} (h : k xs) : LL1 M (.lst xs) k := ⟨xs, .inl rfl, h⟩
theorem ll1_frz {M : MM} {xs : List D} {k : List D → Prop} (h : k xs) : LL1 M (.frz xs) k := ⟨xs, .inl rfl, h⟩
theorem ll1_adr {M : MM} {a : Addr} {xs : List D} {k : List D → Prop} (e : M a = some (.lst xs)) (h : k xs) : LL1 M (.adr a) k := ⟨xs, .inr ⟨a, rfl, e⟩, h⟩
theorem f1_lst {xs : List D} {k : List D → Prop} (h : k xs) : F1 (.lst xs) k := ⟨xs, rfl, h⟩
theorem f1_frz {xs : List D} {k : List D → Prop} (h : k xs) : F1 (.frz xs) k := ⟨xs, rfl, h⟩
theorem t1 {xs : List D} {k : List D → Prop} (h : k xs) : T1 (.tup xs) k := ⟨xs, rfl, h⟩
theorem n1 {xs : List D} {k : List D → Prop} (h : k xs) : N1 (.lst xs) k := ⟨xs, rfl, h⟩
theorem m1 {M : MM} {a : Addr} {xs : List D} {k : Addr → List D → Prop} (e : M a = some (.lst xs)) (h : k a xs) : M1 M (.adr a) k := ⟨a, xs, rfl, e, h⟩
theorem g1 {M : MM} {a : Addr} {xs : List D} {k : List D → Prop} (e : M a = some (.lst xs)) (h : k xs) : G1 M a k := ⟨xs, e, h⟩
theorem at1 {xs : List D} {i : Int} {d : D} {k : D → Prop} (e : atI xs i = some d) (h : k d) : At1 xs i k := ⟨d, e, h⟩
/-- readings with a mark: a display that stays mutable; a name whose mutable list is frozen -/
@[irreducible] def tLstM (t : TA) : TE := tLst t
@[irreducible] def tVarF (i : Nat) : TE := tVar i
theorem pe_lstM {X : Cx} {es : List Expr} {t : TA} {pos : Pos} (h : PA X es t) : PE X (.List es pos) (tLstM t) := by
  unfold tLstM
  exact pe_lst h
theorem pvF {X : Cx} (i : Nat) {x : Str} {pos : Pos} (hN : X.N[i]? = some x := by rfl) (hv : Vis X.env.scope x := by first | exact Or.inl rfl | exact Or.inr (Or.inl rfl) | exact Or.inr (Or.inr rfl)) (hd : (x == ("__debug__" : Str)) = false := by decide)
    (hcd : (x == ("__classdict__" : Str)) = false := by decide) : PE X (.Name x pos) (tVarF i) := by
  unfold tVarF
  exact pe_var hN hv hd hcd
section
variable {K : Kx} {s : Sd} {Q : D → Sd → Prop} {ta tb te tl : TE} {t u : TT} {d : D} {v : V} {P : Pd} {ts tr tz : TS} {g : TG} {tas : TA}
theorem w_int {i : Int} (q : Q (.int i) s) : Ed K (tC (.int i)) s Q := ed_c q
theorem w_str {i : Str} (q : Q (.str i) s) : Ed K (tC (.str i)) s Q := ed_c q
theorem w_bl {i : Bool} (q : Q (.bl i) s) : Ed K (tC (.bl i)) s Q := ed_c q
theorem w_non (q : Q .non s) : Ed K (tC .non) s Q := ed_c q
theorem w_varF {i : Nat} {a : Addr} {ds : List D} (h : s.ρ[i]? = some (some (.adr a))) (hm : s.M a = some (.lst ds)) (q : Q (.lst ds) ⟨s.ρ.set i (some (.lst ds)), delM s.M a⟩) : Ed K (tVarF i) s Q := by
  unfold tVarF
  exact ed_varF h hm q
theorem w_add (h : Ed K ta s fun x s1 => Ed K tb s1 fun y s2 => I2 x y fun i j => Q (.int (i + j)) s2) : Ed K (tOp (rI0 fun i j => .int (i + j)) ta tb) s Q := ed_opI0 h
theorem w_sub (h : Ed K ta s fun x s1 => Ed K tb s1 fun y s2 => I2 x y fun i j => Q (.int (i - j)) s2) : Ed K (tOp (rI0 fun i j => .int (i - j)) ta tb) s Q := ed_opI0 h
theorem w_mul (h : Ed K ta s fun x s1 => Ed K tb s1 fun y s2 => I2 x y fun i j => Sc (CMul i j) (Q (.int (i * j)) s2)) : Ed K (tOp (rI CMul fun i j => .int (i * j)) ta tb) s Q := ed_opI h
theorem w_mulW (h : Ed K ta s fun x s1 => Ed K tb s1 fun y s2 => I2 x y fun i j => Sc (CMulW i j) (Q (.int (i * j)) s2)) : Ed K (tOp (rI CMulW fun i j => .int (i * j)) ta tb) s Q := ed_opI h
theorem w_mod (h : Ed K ta s fun x s1 => Ed K tb s1 fun y s2 => I2 x y fun i j => Sc (0 < j) (Q (.int (i % j)) s2)) : Ed K (tOp (rI (fun _ j => 0 < j) fun i j => .int (i % j)) ta tb) s Q := ed_opI h
theorem w_fdiv (h : Ed K ta s fun x s1 => Ed K tb s1 fun y s2 => I2 x y fun i j => Sc (CDiv i j) (Q (.int (i / j)) s2)) : Ed K (tOp (rI CDiv fun i j => .int (i / j)) ta tb) s Q := ed_opI h
theorem w_fdivW (h : Ed K ta s fun x s1 => Ed K tb s1 fun y s2 => I2 x y fun i j => Sc (CDivW i j) (Q (.int (i / j)) s2)) : Ed K (tOp (rI CDivW fun i j => .int (i / j)) ta tb) s Q := ed_opI h
theorem w_pow (h : Ed K ta s fun x s1 => Ed K tb s1 fun y s2 => I2 x y fun i j => Sc (CPow i j) (Q (.int (i ^ j.toNat)) s2)) : Ed K (tOp (rI CPow fun i j => .int (i ^ j.toNat)) ta tb) s Q := ed_opI h
theorem w_lt (h : Ed K ta s fun x s1 => Ed K tb s1 fun y s2 => I2 x y fun i j => Q (.bl (decide (i < j))) s2) : Ed K (tOp (rI0 fun i j => .bl (decide (i < j))) ta tb) s Q := ed_opI0 h
theorem w_le (h : Ed K ta s fun x s1 => Ed K tb s1 fun y s2 => I2 x y fun i j => Q (.bl (decide (i ≤ j))) s2) : Ed K (tOp (rI0 fun i j => .bl (decide (i ≤ j))) ta tb) s Q := ed_opI0 h
theorem w_gt (h : Ed K ta s fun x s1 => Ed K tb s1 fun y s2 => I2 x y fun i j => Q (.bl (decide (j < i))) s2) : Ed K (tOp (rI0 fun i j => .bl (decide (j < i))) ta tb) s Q := ed_opI0 h
theorem w_ge (h : Ed K ta s fun x s1 => Ed K tb s1 fun y s2 => I2 x y fun i j => Q (.bl (decide (j ≤ i))) s2) : Ed K (tOp (rI0 fun i j => .bl (decide (j ≤ i))) ta tb) s Q := ed_opI0 h
theorem w_neg (h : Ed K ta s fun x s1 => I1 x fun i => Q (.int (-i)) s1) : Ed K (tUn (rU fun i => .int (-i)) ta) s Q := ed_un h
/-- == of ints, texts, bools, None -/
def scalD : D → D → Bool
  | .int _, .int _ => true
  | .str _, .str _ => true
  | .bl _, .bl _ => true
  | .non, .non => true
  | _, _ => false
inductive ScEq : D → D → Prop → Prop
  | int (i j : Int) : ScEq (.int i) (.int j) (i = j)
  | str (i j : Str) : ScEq (.str i) (.str j) (i = j)
  | bl (i j : Bool) : ScEq (.bl i) (.bl j) (i = j)
def E2 (x y : D) (k : (p : Prop) → [Decidable p] → Prop) : Prop := ∃ (p : Prop) (_ : Decidable p), ScEq x y p ∧ k p
theorem e2_int {i j : Int} {k : (p : Prop) → [Decidable p] → Prop} (h : k (i = j)) : E2 (.int i) (.int j) k := ⟨_, inferInstance, .int i j, h⟩
theorem e2_str {i j : Str} {k : (p : Prop) → [Decidable p] → Prop} (h : k (i = j)) : E2 (.str i) (.str j) k := ⟨_, inferInstance, .str i j, h⟩
theorem e2_bl {i j : Bool} {k : (p : Prop) → [Decidable p] → Prop} (h : k (i = j)) : E2 (.bl i) (.bl j) k := ⟨_, inferInstance, .bl i j, h⟩
theorem ScEq.of {S : Hp} {x y : D} {p : Prop} [Decidable p] {v w : V} (e : ScEq x y p) (rx : Rp K.K S x v) (ry : Rp K.K S y w) : scal v w = true ∧ decide (v = w) = decide p := by
  cases e with
  | int i j =>
    rw [rx.int_of, ry.int_of]
    exact ⟨rfl, by simp⟩
  | str i j =>
    rw [rx.str_of, ry.str_of]
    exact ⟨rfl, by simp⟩
  | bl i j =>
    rw [rx.bl_of, ry.bl_of]
    exact ⟨rfl, by simp⟩
theorem w_eq (h : Ed K ta s fun x s1 => Ed K tb s1 fun y s2 => E2 x y fun p => Q (.bl (decide p)) s2) : Ed K (tOp rEq ta tb) s Q := fun S H σ A r R k =>
  h S H σ A r _ fun x s1 v S1 H1 h1 e1 A1 r1 rx => h1 S1 H1 σ A1 r1 _ fun y s2 w S2 H2 h2 e2 A2 r2 ry => by
    obtain ⟨p, dp, hp, q⟩ := h2
    obtain ⟨h3, h4⟩ := hp.of (rx.mono e2) ry
    refine ⟨h3, k _ s2 _ S2 H2 q (e1.trans e2) A2 r2 ?_⟩
    rw [h4]
    exact Rp.bl
theorem w_ne (h : Ed K ta s fun x s1 => Ed K tb s1 fun y s2 => E2 x y fun p => Q (.bl (!decide p)) s2) : Ed K (tOp rNe ta tb) s Q := fun S H σ A r R k =>
  h S H σ A r _ fun x s1 v S1 H1 h1 e1 A1 r1 rx => h1 S1 H1 σ A1 r1 _ fun y s2 w S2 H2 h2 e2 A2 r2 ry => by
    obtain ⟨p, dp, hp, q⟩ := h2
    obtain ⟨h3, h4⟩ := hp.of (rx.mono e2) ry
    refine ⟨h3, k _ s2 _ S2 H2 q (e1.trans e2) A2 r2 ?_⟩
    rw [h4]
    exact Rp.bl
theorem w_isN (h : Ed K ta s fun x s1 => Q (.bl (isN x)) s1) : Ed K (tIsN ta) s Q := ed_isN h
theorem w_notN (h : Ed K ta s fun x s1 => Q (.bl (!isN x)) s1) : Ed K (tNotN ta) s Q := ed_notN h
theorem w_test {Q : Bool → Sd → Prop} (h : Ed K te s fun x s1 => B1 x fun b => Q b s1) : Et K (tTest te) s Q := et_test h
theorem w_B {Q : Bool → Sd → Prop} (h : Ed K te s fun x s1 => B1 x fun b => Q b s1) : Et K (tB te) s Q := et_B h
theorem w_and {Q : Bool → Sd → Prop} (h : Et K t s fun b s1 => Br b (Et K u s1 Q) (Q false s1)) : Et K (tAnd t u) s Q := et_and h
theorem w_or {Q : Bool → Sd → Prop} (h : Et K t s fun b s1 => Br b (Q true s1) (Et K u s1 Q)) : Et K (tOr t u) s Q := et_or h
theorem w_not {Q : Bool → Sd → Prop} (h : Et K t s fun b s1 => Q (!b) s1) : Et K (tNot t) s Q := et_not h
theorem w_andV (h : Ed K ta s fun x s1 => B1 x fun b => Br b (Ed K tb s1 Q) (Q (.bl false) s1)) : Ed K (tAndV ta tb) s Q := ed_andV h
theorem w_orV (h : Ed K ta s fun x s1 => B1 x fun b => Br b (Q (.bl true) s1) (Ed K tb s1 Q)) : Ed K (tOrV ta tb) s Q := ed_orV h
theorem w_notV (h : Ed K ta s fun x s1 => B1 x fun b => Q (.bl (!b)) s1) : Ed K (tNotV ta) s Q := ed_notV h
theorem w_ife (h : Et K t s fun b s1 => Br b (Ed K ta s1 Q) (Ed K tb s1 Q)) : Ed K (tIf t ta tb) s Q := ed_if h
theorem w_lst (h : Ea K tas s fun xs s1 => Sc (xs.length ≤ sizeLine) (Q (.lst xs) s1)) : Ed K (tLst tas) s Q := ed_lst h
theorem w_lstM (h : Ea K tas s fun xs s1 => Sc (xs.length ≤ sizeLine) (∀ p, s1.M p = none → Q (.adr p) ⟨s1.ρ, updM s1.M p (.lst xs)⟩)) : Ed K (tLstM tas) s Q := by
  unfold tLstM
  exact ed_lstM h
theorem w_tup (h : Ea K tas s fun xs s1 => Sc (xs.length ≤ sizeLine) (Q (.tup xs) s1)) : Ed K (tTup tas) s Q := ed_tup h
theorem w_ixL (h : Ed K ta s fun x s1 => Ed K tb s1 fun y s2 => LL1 s2.M x fun xs => I1 y fun i => At1 xs i fun d => Q d s2) : Ed K (tOp (rIxL K.K) ta tb) s Q := fun S H σ A r R k =>
  h S H σ A r _ fun x s1 v S1 H1 h1 e1 A1 r1 rx => h1 S1 H1 σ A1 r1 _ fun y s2 w S2 H2 h2 e2 A2 r2 ry => by
    obtain ⟨xs, hx, i, rfl, d, hd, q⟩ := h2
    have go : ∃ a vs, v = .ref a ∧ SqL K.K H2 a vs ∧ RpL K.K S2 xs vs := by
      rcases hx with hx | ⟨a, rfl, hm⟩
      · obtain ⟨a, vs, rfl, hl, rl⟩ := (rx.mono e2).asL_of hx
        exact ⟨a, vs, rfl, ex_l A2.ex hl, rl⟩
      · obtain rfl := rx.oth_of
        obtain ⟨_, u, hu, ro⟩ := A2.mm a _ hm
        obtain ⟨vs, rfl, rl⟩ := ro.lst_of
        exact ⟨a, vs, rfl, SqL.of hu, rl⟩
    obtain ⟨a, vs, rfl, hl, rl⟩ := go
    obtain ⟨v', hv, rv⟩ := atI_map rl hd
    exact ⟨a, vs, i, v', rfl, ry.int_of, hl, hv, k _ s2 _ S2 H2 q (e1.trans e2) A2 r2 rv⟩
theorem w_ixT (h : Ed K ta s fun x s1 => Ed K tb s1 fun y s2 => T1 x fun xs => I1 y fun i => At1 xs i fun d => Q d s2) : Ed K (tOp (rIxT K.K) ta tb) s Q :=
  ed_ixT (h.imp fun _ _ h1 => h1.imp fun _ _ ⟨xs, hx, i, hy, d, hd, q⟩ => ⟨xs, i, d, hx, hy, hd, q⟩)
theorem w_part {Q : Option Int → Sd → Prop} (h : Ed K te s fun x s1 => I1 x fun i => Q (some i) s1) : Eo K (tPart te) s Q := eo_some h
theorem w_slL {tl th : TO} (h : Ed K te s fun x s1 => Eo K tl s1 fun lo s2 => Eo K th s2 fun hi s3 => LL1 s3.M x fun xs => Q (.lst (cutD xs lo hi)) s3) : Ed K (tSl (rSlL K.K) te tl th) s Q := fun S H σ A r R k =>
  h S H σ A r _ fun x s1 v S1 H1 h1 e1 A1 r1 rx => h1 S1 H1 σ A1 r1 _ fun lo s2 S2 H2 h2 e2 A2 r2 => h2 S2 H2 σ A2 r2 _ fun hi s3 S3 H3 h3 e3 A3 r3 => by
    obtain ⟨xs, hx, q⟩ := h3
    have go : ∃ a vs, v = .ref a ∧ SqL K.K H3 a vs ∧ RpL K.K S3 xs vs := by
      rcases hx with hx | ⟨a, rfl, hm⟩
      · obtain ⟨a, vs, rfl, hl, rl⟩ := (rx.mono (e2.trans e3)).asL_of hx
        exact ⟨a, vs, rfl, ex_l A3.ex hl, rl⟩
      · obtain rfl := rx.oth_of
        obtain ⟨_, u, hu, ro⟩ := A3.mm a _ hm
        obtain ⟨vs, rfl, rl⟩ := ro.lst_of
        exact ⟨a, vs, rfl, SqL.of hu, rl⟩
    obtain ⟨a, vs, rfl, hl, rl⟩ := go
    refine ⟨a, vs, rfl, hl, fun p hp => ?_⟩
    obtain ⟨A4, e4⟩ := A3.new hp (.lst (cutV vs lo hi))
    exact k _ s3 _ _ _ q ((e1.trans (e2.trans e3)).trans e4) A4 (r3.mono e4) (Rp.lst upd_same (RpL.mono e4 _ _ (rl.cut lo hi)))
theorem w_cat (h : Ed K ta s fun x s1 => Ed K tb s1 fun y s2 => N1 x fun xs => N1 y fun ys => Sc (xs.length + ys.length ≤ sizeLine) (Q (.lst (xs ++ ys)) s2)) : Ed K (tOp rCat ta tb) s Q :=
  ed_cat (h.imp fun _ _ h1 => h1.imp fun _ _ ⟨xs, hx, ys, hy, hz, q⟩ => ⟨xs, ys, hx, hy, hz, q⟩)
theorem w_len (h : Ed K ta s fun x s1 => L1 s1.M x fun xs => Q (.int (xs.length : Int)) s1) : Ed K (tCB (fun xs H Q => ∃ p ys, xs = [.ref p] ∧ (SqL K.K H p ys ∨ SqT K.K H p ys) ∧ Q (.int ys.length) H) (tCons ta tNil)) s Q := fun S H σ A r R k =>
  h S H σ A r _ fun x s1 v S1 H1 h1 e1 A1 r1 rx => by
    obtain ⟨xs, hx, q⟩ := h1
    have go : ∃ a vs, v = .ref a ∧ (SqL K.K H1 a vs ∨ SqT K.K H1 a vs) ∧ RpL K.K S1 xs vs := by
      rcases hx with hx | ⟨a, rfl, hm⟩
      · obtain ⟨a, vs, rfl, hl, rl⟩ := rx.seqL_of hx
        exact ⟨a, vs, rfl, hl.elim (fun z => .inl (ex_l A1.ex z)) fun z => .inr (ex_t A1.ex z), rl⟩
      · obtain rfl := rx.oth_of
        obtain ⟨_, u, hu, ro⟩ := A1.mm a _ hm
        obtain ⟨vs, rfl, rl⟩ := ro.lst_of
        exact ⟨a, vs, rfl, .inl (SqL.of hu), rl⟩
    obtain ⟨a, vs, rfl, hl, rl⟩ := go
    refine ⟨a, vs, rfl, hl, ?_⟩
    rw [← rl.length]
    exact k _ s1 _ S1 H1 q e1 A1 r1 Rp.int
theorem w_list (h : Ed K ta s fun x s1 => L1 s1.M x fun xs => Q (.lst xs) s1) : Ed K (tCB (fun xs H Q => ∃ p ys, xs = [.ref p] ∧ (SqL K.K H p ys ∨ SqT K.K H p ys) ∧ ∀ l, H l = none → Q (.ref l) (upd H l (.lst ys))) (tCons ta tNil)) s Q := fun S H σ A r R k =>
  h S H σ A r _ fun x s1 v S1 H1 h1 e1 A1 r1 rx => by
    obtain ⟨xs, hx, q⟩ := h1
    have go : ∃ a vs, v = .ref a ∧ (SqL K.K H1 a vs ∨ SqT K.K H1 a vs) ∧ RpL K.K S1 xs vs := by
      rcases hx with hx | ⟨a, rfl, hm⟩
      · obtain ⟨a, vs, rfl, hl, rl⟩ := rx.seqL_of hx
        exact ⟨a, vs, rfl, hl.elim (fun z => .inl (ex_l A1.ex z)) fun z => .inr (ex_t A1.ex z), rl⟩
      · obtain rfl := rx.oth_of
        obtain ⟨_, u, hu, ro⟩ := A1.mm a _ hm
        obtain ⟨vs, rfl, rl⟩ := ro.lst_of
        exact ⟨a, vs, rfl, .inl (SqL.of hu), rl⟩
    obtain ⟨a, vs, rfl, hl, rl⟩ := go
    refine ⟨a, vs, rfl, hl, fun p hp => ?_⟩
    obtain ⟨A4, e4⟩ := A1.new hp (.lst vs)
    exact k _ s1 _ _ _ q (e1.trans e4) A4 (r1.mono e4) (Rp.lst upd_same (RpL.mono e4 _ _ rl))
theorem w_int1 (h : Ed K ta s fun x s1 => I1 x fun i => Q (.int i) s1) : Ed K (tCB (fun xs H Q => (∃ i, xs = [.int i] ∧ Q (.int i) H) ∨ ∃ k, xs = [.bl k] ∧ Q (.int (if k then 1 else 0)) H) (tCons ta tNil)) s Q := ed_int h
theorem w_app (h : Ed K ta s fun x s1 => M1 s1.M x fun a xs => Ed K tb s1 fun y s2 => G1 s2.M a fun xs' => Sc (xs'.length < sizeLine) (Q .non ⟨s2.ρ, updM s2.M a (.lst (xs' ++ [y]))⟩)) : Ed K (tBM K.K "list" rAppend ta (tCons tb tNil)) s Q := ed_app h
theorem w_ext (h : Ed K ta s fun x s1 => M1 s1.M x fun a xs => Ed K tb s1 fun y s2 => N1 y fun ys => G1 s2.M a fun xs' => Sc (xs'.length + ys.length ≤ sizeLine) (Q .non ⟨s2.ρ, updM s2.M a (.lst (xs' ++ ys))⟩)) : Ed K (tBM K.K "list" rExtend ta (tCons tb tNil)) s Q :=
  ed_ext (h.imp fun _ _ ⟨a, xs, hx, hm, h1⟩ => ⟨a, xs, hx, hm, h1.imp fun _ _ ⟨ys, hy, xs', hm', hz, q⟩ => ⟨xs', ys, hy, hm', hz, q⟩⟩)
theorem w_pop (h : Ed K ta s fun x s1 => M1 s1.M x fun a xs => ∃ y, xs[xs.length - 1]? = some y ∧ Q y ⟨s1.ρ, updM s1.M a (.lst xs.dropLast)⟩) : Ed K (tBM0 K.K "list" rPop ta) s Q :=
  ed_pop (h.imp fun _ _ ⟨a, xs, hx, hm, y, hy, q⟩ => ⟨a, xs, y, hx, hm, hy, q⟩)
theorem w_call {T : DSp} {E : XK} (h : Ea K tas s fun ds s1 => T ds s1.M fun d M' => Q d ⟨s1.ρ, M'⟩) : Ed K (tCall (spOf K.K T) [] E tas) s Q := ed_call h
theorem w_if (h : Et K t s fun b s' => Br b (Es K ts s' P) (Es K tr s' P)) : Es K (tIfS t ts tr) s P := es_if h
theorem w_aug {i : Nat} {f : Int → Int → Int} {a : Int} (h0 : s.ρ[i]? = some (some (.int a))) (h : Ed K te s fun d s' => I1 d fun b => P.nx ⟨s'.ρ.set i (some (.int (f a b))), s'.M⟩) : Es K (tAug i te (ipI f)) s P := es_aug h0 h
theorem w_setM {Q : Sd → Prop} (h : Ed K ta s fun x s1 => Ed K tb s1 fun y s2 => M1 s2.M x fun a xs => I1 y fun i => ∃ j, ixN xs.length i = some j ∧ Q ⟨s2.ρ, updM s2.M a (.lst (xs.set j d))⟩) : Eg K (gSub ta tb rSetL) d s Q :=
  eg_setM (h.imp fun _ _ h1 => h1.imp fun _ _ ⟨a, xs, hx, hm, i, hy, j, hj, q⟩ => ⟨a, xs, i, j, hx, hy, hm, hj, q⟩)
theorem w_tupT {n : Nat} {gs : TGs} {Q : Sd → Prop} (h : T1 d fun ds => Sc (ds.length = n) (Egs K gs ds s Q)) : Eg K (gTup K.K n gs) d s Q := eg_tup h
theorem w_iL {Q : List D → Sd → Prop} (h : Ed K tl s fun d s' => F1 d fun ds => Q ds s') : Ei K (iList K.K tl) s Q := ei_list h
theorem w_iT {Q : List D → Sd → Prop} (h : Ed K tl s fun d s' => T1 d fun ds => Q ds s') : Ei K (iTup K.K tl) s Q := ei_tup h
theorem w_iR1 {Q : List D → Sd → Prop} (h : Ed K tl s fun d s' => I1 d fun n => Sc (-(2 ^ 62) ≤ n ∧ n < 2 ^ 62) (Q (rangeD 0 n.toNat) s')) : Ei K (iRng1 (tCons tl tNil)) s Q :=
  ei_rng1 (ea_cons (h.imp fun _ _ ⟨n, hn, hz, q⟩ => ea_nil ⟨n, by rw [hn], hz.1, hz.2, q⟩))
theorem w_iR2 {Q : List D → Sd → Prop} (h : Ed K ta s fun d s1 => Ed K tb s1 fun e s' => I2 d e fun i n => Sc (-(2 ^ 62) ≤ i ∧ i < 2 ^ 62 ∧ -(2 ^ 62) ≤ n ∧ n < 2 ^ 62) (Q (rangeD i (n - i).toNat) s')) : Ei K (iRng2 (tCons ta (tCons tb tNil))) s Q :=
  ei_rng2 (ea_cons (h.imp fun _ _ h1 => ea_cons (h1.imp fun _ _ ⟨i, n, hi, hn, hz, q⟩ => ea_nil ⟨i, n, by rw [hi, hn], hz, q⟩)))
theorem w_iRev {Q : List D → Sd → Prop} (h : Ed K tl s fun d s' => F1 d fun ds => Q ds.reverse s') : Ei K (iRev K.K (tCons tl tNil)) s Q :=
  ei_rev (ea_cons (h.imp fun _ _ ⟨ds, hd, q⟩ => ea_nil ⟨_, ds, rfl, hd, q⟩))
end
end DL
open DL in
local macro_rules | `(tactic| walk_at "mm") => `(tactic| first | assumption | exact updM_same | (refine updM_get ?_ ?_ <;> first | assumption | (apply Ne.symm; assumption) | walk_at "mm"))

namespace DL
open PySem L2 Evl
/-! ### == of data -/
mutual
def toP : D → PyData
  | .non => .none
  | .bl b => .bool b
  | .int i => .int i
  | .str x => .str x
  | .lst xs => .list (toPL xs)
  | .frz xs => .list (toPL xs)
  | .tup xs => .tuple (toPL xs)
  | .oth _ => .none
def toPL : List D → List PyData
  | [] => []
  | x :: xs => toP x :: toPL xs
end
/-- data that can be compared, of depth n at most -/
def cmpD : Nat → D → Prop
  | _, .non => True
  | _, .bl _ => True
  | _, .int _ => True
  | _, .str x => PySem.PyData.strOk x = true
  | n + 1, .lst xs => ∀ x ∈ xs, cmpD n x
  | n + 1, .frz xs => ∀ x ∈ xs, cmpD n x
  | n + 1, .tup xs => ∀ x ∈ xs, cmpD n x
  | 0, .lst _ => False
  | 0, .frz _ => False
  | 0, .tup _ => False
  | _, .oth _ => False
section
variable {K : PySem.W.Frag} {S : Hp}
theorem lay_all : ∀ {xs : List D} {n : Nat}, (∀ x ∈ xs, (toP x).canLay0 = true ∧ (toP x).depth ≤ n) → PyData.canLayAll0 (toPL xs) = true ∧ PyData.depthAll (toPL xs) ≤ n
  | [], n, h => by simp [toPL, PyData.canLayAll0, PyData.depthAll]
  | x :: xs, n, h => by
    have h1 := h x List.mem_cons_self
    have h2 := lay_all (xs := xs) (n := n) fun y hy => h y (List.mem_cons_of_mem _ hy)
    simp only [toPL, PyData.canLayAll0, PyData.depthAll, h1.1, h2.1, Bool.and_self, true_and]
    omega
theorem cmpD_lay : ∀ (n : Nat) (d : D), cmpD n d → (toP d).canLay0 = true ∧ (toP d).depth ≤ n
  | n, .non, _ => by simp [toP, PyData.canLay0, PyData.depth]
  | n, .bl _, _ => by simp [toP, PyData.canLay0, PyData.depth]
  | n, .int _, _ => by simp [toP, PyData.canLay0, PyData.depth]
  | n, .str x, h => by
    have h : PySem.PyData.strOk x = true := by cases n <;> exact h
    simp [toP, PyData.canLay0, PyData.depth, h]
  | 0, .lst _, h => h.elim
  | 0, .frz _, h => h.elim
  | 0, .tup _, h => h.elim
  | n + 1, .lst xs, h => by
    have := lay_all (xs := xs) (n := n) fun x hx => cmpD_lay n x (h x hx)
    simp only [toP, PyData.canLay0, PyData.depth]
    exact ⟨this.1, by omega⟩
  | n + 1, .frz xs, h => by
    have := lay_all (xs := xs) (n := n) fun x hx => cmpD_lay n x (h x hx)
    simp only [toP, PyData.canLay0, PyData.depth]
    exact ⟨this.1, by omega⟩
  | n + 1, .tup xs, h => by
    have := lay_all (xs := xs) (n := n) fun x hx => cmpD_lay n x (h x hx)
    simp only [toP, PyData.canLay0, PyData.depth]
    exact ⟨this.1, by omega⟩
  | n, .oth _, h => by cases n <;> exact h.elim
theorem cmpD_shaped {d : D} (h : cmpD 64 d) : SeqAt.shaped (toP d) = true := by
  obtain ⟨h1, h2⟩ := cmpD_lay 64 d h
  unfold SeqAt.shaped
  rw [h1, decide_eq_true h2]
  rfl
theorem dp_all : ∀ {xs : List D} {vs : List V}, (∀ x ∈ xs, ∀ v, Rp K S x v → Dp K S v (toP x)) → RpL K S xs vs → DpAll K S vs (toPL xs)
  | [], vs, _, r => by
    rw [r.nil_of, toPL]
    exact .nil
  | x :: xs, vs, h, r => by
    obtain ⟨v, us, rfl, r1, r2⟩ := r.cons_of
    rw [toPL]
    exact .cons (h x List.mem_cons_self v r1) (dp_all (fun y hy => h y (List.mem_cons_of_mem _ hy)) r2)
theorem Rp.dp : ∀ (n : Nat) (d : D) (v : V), cmpD n d → Rp K S d v → Dp K S v (toP d)
  | n, .non, v, _, r => by rw [r.non_of, toP]; exact .non
  | n, .bl _, v, _, r => by rw [r.bl_of, toP]; exact .bl _
  | n, .int _, v, _, r => by rw [r.int_of, toP]; exact .int _
  | n, .str _, v, _, r => by rw [r.str_of, toP]; exact .str _
  | 0, .lst _, v, h, r => h.elim
  | 0, .frz _, v, h, r => h.elim
  | 0, .tup _, v, h, r => h.elim
  | n + 1, .lst xs, v, h, r => by
    obtain ⟨a, vs, rfl, ha, rl⟩ := r.lst_of
    rw [toP]
    exact .lst (SqL.of ha) (dp_all (fun x hx v => Rp.dp n x v (h x hx)) rl)
  | n + 1, .frz xs, v, h, r => by
    obtain ⟨a, vs, rfl, ha, rl⟩ := r.frz_of
    rw [toP]
    exact .lst ha (dp_all (fun x hx v => Rp.dp n x v (h x hx)) rl)
  | n + 1, .tup xs, v, h, r => by
    obtain ⟨a, vs, rfl, ha, rl⟩ := r.tup_of
    rw [toP]
    exact .tup ha (dp_all (fun x hx v => Rp.dp n x v (h x hx)) rl)
  | n, .oth _, v, h, r => by cases n <;> exact h.elim
end
mutual
theorem dp_mono {K : PySem.W.Frag} {S S' : Hp} (e : Ex S S') : ∀ (d : PyData) (v : V), Dp K S v d → Dp K S' v d
  | .none, _, h => by cases h; exact .non
  | .bool _, _, h => by cases h; exact .bl _
  | .int _, _, h => by cases h; exact .int _
  | .str _, _, h => by cases h; exact .str _
  | .list ds, _, h => by cases h with | lst h1 h2 => exact .lst (ex_l e h1) (dpAll_mono e ds _ h2)
  | .tuple ds, _, h => by cases h with | tup h1 h2 => exact .tup (ex_t e h1) (dpAll_mono e ds _ h2)
  | .dict _, _, h => by cases h
theorem dpAll_mono {K : PySem.W.Frag} {S S' : Hp} (e : Ex S S') : ∀ (ds : List PyData) (vs : List V), DpAll K S vs ds → DpAll K S' vs ds
  | [], _, h => by cases h; exact .nil
  | d :: ds, _, h => by cases h with | cons h1 h2 => exact .cons (dp_mono e d _ h1) (dpAll_mono e ds _ h2)
end
def eqD (x y : D) : Bool := PyData.eqv (toP x) (toP y)
theorem eqD_refl {n : Nat} {x : D} (h : cmpD n x) : eqD x x = true := PySem.SeqAt.eqv_refl _ (cmpD_lay n x h).1
section
variable {K : Kx} {s : Sd} {Q : D → Sd → Prop} {ta tb : TE}
theorem w_eqD (h : Ed K ta s fun x s1 => Ed K tb s1 fun y s2 => Sc (cmpD 64 x ∧ cmpD 64 y) (Q (.bl (eqD x y)) s2)) : Ed K (tOp (rEqD K.K) ta tb) s Q := fun S H σ A r R k =>
  h S H σ A r _ fun x s1 v S1 H1 h1 e1 A1 r1 rx => h1 S1 H1 σ A1 r1 _ fun y s2 w S2 H2 h2 e2 A2 r2 ry =>
    ⟨toP x, toP y, dp_mono A2.ex _ _ ((rx.mono e2).dp 64 x v h2.1.1), dp_mono A2.ex _ _ (ry.dp 64 y w h2.1.2), cmpD_shaped h2.1.1, cmpD_shaped h2.1.2, k _ s2 _ S2 H2 h2.2 (e1.trans e2) A2 r2 Rp.bl⟩
theorem w_neD (h : Ed K ta s fun x s1 => Ed K tb s1 fun y s2 => Sc (cmpD 64 x ∧ cmpD 64 y) (Q (.bl (!eqD x y)) s2)) : Ed K (tOp (rNeD K.K) ta tb) s Q := fun S H σ A r R k =>
  h S H σ A r _ fun x s1 v S1 H1 h1 e1 A1 r1 rx => h1 S1 H1 σ A1 r1 _ fun y s2 w S2 H2 h2 e2 A2 r2 ry =>
    ⟨toP x, toP y, dp_mono A2.ex _ _ ((rx.mono e2).dp 64 x v h2.1.1), dp_mono A2.ex _ _ (ry.dp 64 y w h2.1.2), cmpD_shaped h2.1.1, cmpD_shaped h2.1.2, k _ s2 _ S2 H2 h2.2 (e1.trans e2) A2 r2 Rp.bl⟩
/-- known to be equal -/
theorem br_eqD {n : Nat} {x y : D} {A B : Prop} (h : x = y) (o : cmpD n x) (k : A) : Br (eqD x y) A B := by
  subst h
  rw [eqD_refl o]
  exact br_true k
theorem cmpD_ints {n : Nat} {l : List Int} : cmpD (n + 1) (.lst (l.map .int)) := fun x hx => by
  obtain ⟨i, _, rfl⟩ := List.mem_map.mp hx
  cases n <;> trivial
theorem cmpD_intsF {n : Nat} {l : List Int} : cmpD (n + 1) (.frz (l.map .int)) := fun x hx => by
  obtain ⟨i, _, rfl⟩ := List.mem_map.mp hx
  cases n <;> trivial
/-- a module's constant -/
theorem pe_cst {X : Cx} {x : Str} {v : V} {pos : Pos} (hg : Gl X x) (hm : ∃ u, X.mg x = some u ∧ RelV v u) (hd : (x == ("__debug__" : Str)) = false := by decide) : PE X (.Name x pos) (tC v) := by
  obtain ⟨u, h1, h2⟩ := hm
  exact pe_glob hg h1 h2 hd
/-- a loop whose turns fold: the state by what is carried and the item's slot -/
theorem lp_fold {P : Pd} {g : TG} {ts : TS} {α : Type} (st : α → Option D → Sd) (f : α → D → α) : ∀ (ds : List D) (a : α) (x : Option D), (∀ a x d, d ∈ ds → ∀ N : Sd → Prop, (∀ x', N (st (f a d) x')) → Eg K g d (st a x) fun s2 => Es K ts s2 { P with nx := N, ct := N, bk := P.nx }) → (∀ x, P.nx (st (ds.foldl f a) x)) → Lp K g ts P ds (st a x)
  | [], a, x, _, h => h x
  | d :: ds, a, x, hs, h => hs a x d List.mem_cons_self _ fun x' => lp_fold st f ds (f a d) x' (fun a x d hd => hs a x d (List.mem_cons_of_mem _ hd)) h
end
end DL

namespace DL
open PySem L2 Evl
section
variable {K : Kx} {s : Sd} {P : Pd} {ts tr : TS} {g : TG}
theorem es_cut (I : Sd → Prop) (h1 : Es K ts s { P with nx := I }) (h2 : ∀ s', I s' → Es K tr s' P) : Es K (tSeq ts tr) s P := es_seq (h1.imp h2 (fun _ _ h => h) (fun _ h => h) fun _ h => h)
/-- a loop all of whose turns keep a word -/
theorem lp_keep {I : Sd → Prop} : ∀ (ds : List D) (s : Sd), I s → (∀ d ∈ ds, ∀ s', I s' → Eg K g d s' fun s2 => Es K ts s2 { P with nx := I, ct := I, bk := P.nx }) → (∀ s', I s' → P.nx s') → Lp K g ts P ds s
  | [], s, h, _, hd => hd s h
  | d :: ds, s, h, hs, hd => by
    intro S H σ v A r rv R k
    refine hs d List.mem_cons_self s h S H σ v A r rv R fun s2 S2 H2 σ2 q => k s2 S2 H2 σ2 ?_
    have nxt : ∀ s2, I s2 → Lp K g ts P ds s2 := fun s2 h2 => lp_keep ds s2 h2 (fun d hd' => hs d (List.mem_cons_of_mem _ hd')) hd
    exact q.imp nxt (fun _ _ z => z) (fun _ z => z) nxt
end
def fI {α : Type} (g : α → Int → α) : α → D → α := fun t d => match d with | .int o => g t o | _ => t
theorem foldl_fI {α : Type} (g : α → Int → α) : ∀ (os : List Int) (t : α), (os.map D.int).foldl (fI g) t = os.foldl g t
  | [], t => rfl
  | o :: os, t => foldl_fI g os (g t o)
theorem mem_ints {d : D} {os : List Int} (h : d ∈ os.map D.int) : ∃ o ∈ os, d = .int o := by
  obtain ⟨o, ho, e⟩ := List.mem_map.mp h
  exact ⟨o, ho, e.symm⟩
theorem atI_ints {os : List Int} {i : Int} {j : Nat} {o : Int} (e : i = (j : Int)) (h : os[j]? = some o) : atI (os.map D.int) i = some (.int o) := by
  rw [e]
  exact atI_nat (by rw [List.getElem?_map, h]; rfl)
theorem sIx_nn {n d : Nat} {i : Int} (h0 : 0 ≤ i) (h : i ≤ (n : Int)) : HT.sIx n d (some i) = i.toNat := by
  show (if i < 0 then (i + (n : Int)).toNat else min i.toNat n) = i.toNat
  rw [if_neg (by omega), Nat.min_eq_left (by omega)]
theorem cutD_nn (xs : List D) {i j : Int} (hi : 0 ≤ i) (hij : i ≤ j) (hj : j ≤ (xs.length : Int)) : cutD xs (some i) (some j) = (xs.drop i.toNat).take (j - i).toNat := by
  unfold cutD
  rw [sIx_nn hi (by omega), sIx_nn (by omega) hj]
  congr 1
  omega
theorem cutD_to (xs : List D) {j : Int} (hj0 : 0 ≤ j) : cutD xs none (some j) = xs.take j.toNat := by
  unfold cutD
  rw [HT.sIx_none, List.drop_zero, Nat.sub_zero]
  show xs.take (if j < 0 then (j + (xs.length : Int)).toNat else min j.toNat xs.length) = _
  rw [if_neg (by omega)]
  by_cases h : j.toNat ≤ xs.length
  · rw [Nat.min_eq_left h]
  · rw [Nat.min_eq_right (by omega), List.take_of_length_le (Nat.le_refl _), List.take_of_length_le (by omega)]
theorem cutD_from (xs : List D) {i : Int} (hi : 0 ≤ i) : cutD xs (some i) none = xs.drop i.toNat := by
  unfold cutD
  rw [HT.sIx_none]
  show (xs.drop (if i < 0 then (i + (xs.length : Int)).toNat else min i.toNat xs.length)).take (xs.length - (if i < 0 then (i + (xs.length : Int)).toNat else min i.toNat xs.length)) = _
  rw [if_neg (by omega)]
  by_cases h : i.toNat ≤ xs.length
  · rw [Nat.min_eq_left h, List.take_of_length_le (by rw [List.length_drop]; omega)]
  · rw [Nat.min_eq_right (by omega), List.drop_length, List.drop_of_length_le (by omega)]
    simp
theorem cutI_nn (os : List Int) {i j : Int} (hi : 0 ≤ i) (hij : i ≤ j) (hj : j ≤ (os.length : Int)) : cutD (os.map D.int) (some i) (some j) = ((os.drop i.toNat).take (j - i).toNat).map D.int := by
  rw [cutD_nn _ hi hij (by rw [List.length_map]; exact hj), ← List.map_drop, ← List.map_take]
theorem cutI_to (os : List Int) {j : Int} (hj : 0 ≤ j) : cutD (os.map D.int) none (some j) = (os.take j.toNat).map D.int := by
  rw [cutD_to _ hj, ← List.map_take]
theorem cutI_from (os : List Int) {j : Int} (hj : 0 ≤ j) : cutD (os.map D.int) (some j) none = (os.drop j.toNat).map D.int := by
  rw [cutD_from _ hj, ← List.map_drop]
theorem at_of' {α : Type} {xs : List α} {z : Int} {j : Nat} {v : α} (e : z = (j : Int)) (h : xs[j]? = some v) : atI xs z = some v := by
  rw [e]
  exact atI_nat h
/-- all mutable objects of M stand in M' as they were -/
def Inc (M M' : MM) : Prop := ∀ a o, M a = some o → M' a = some o
theorem Inc.refl (M : MM) : Inc M M := fun _ _ h => h
theorem Inc.trans {M M1 M2 : MM} (h : Inc M M1) (h' : Inc M1 M2) : Inc M M2 := fun a o e => h' a o (h a o e)
theorem Inc.free {M M1 : MM} (h : Inc M M1) {b : Addr} (e : M1 b = none) : M b = none := by
  cases q : M b with
  | none => rfl
  | some o => rw [h b o q] at e; cases e
theorem Inc.upd {M M1 : MM} (h : Inc M M1) {b : Addr} {o : MO} (e : M b = none) : Inc M (updM M1 b o) := fun a u q => updM_get (mm_ne q e) (h a u q)
theorem Inc.del {M M1 : MM} (h : Inc M M1) {b : Addr} (e : M b = none) : Inc M (delM M1 b) := fun a u q => delM_get (mm_ne q e) (h a u q)
theorem at1z {xs : List D} {j : Nat} {d : D} {k : D → Prop} (h : xs[j]? = some d) (hk : k d) : At1 xs (0 + (j : Int)) k := ⟨d, at_of' (Int.zero_add _) h, hk⟩
theorem at1n {xs : List D} {j : Nat} {d : D} {k : D → Prop} (h : xs[j]? = some d) (hk : k d) : At1 xs (j : Int) k := ⟨d, at_of' rfl h, hk⟩
theorem at1o {xs : List D} (j : Nat) {i : Int} {d : D} {k : D → Prop} (e : i = (j : Int)) (h : xs[j]? = some d) (hk : k d) : At1 xs i k := ⟨d, at_of' e h, hk⟩
/-! ### a state told with less -/
def WkS : List (Option D) → List (Option D) → Prop
  | [], [] => True
  | _ :: ρ, none :: ρ' => WkS ρ ρ'
  | x :: ρ, some d :: ρ' => x = some d ∧ WkS ρ ρ'
  | _, _ => False
theorem RpS.weak {K : PySem.W.Frag} {S : Hp} : ∀ {ρ ρ' : List (Option D)} {σ : St}, WkS ρ ρ' → RpS K S ρ σ → RpS K S ρ' σ
  | [], [], σ, _, h => h
  | [], _ :: _, σ, w, h => by cases w
  | _ :: _, [], σ, w, h => by cases w
  | none :: ρ, none :: ρ', σ, w, h => by
    obtain ⟨x, r, rfl, h1⟩ := h
    exact ⟨x, r, rfl, RpS.weak (show WkS ρ ρ' from w) h1⟩
  | some d :: ρ, none :: ρ', σ, w, h => by
    obtain ⟨x, r, rfl, _, h1⟩ := h
    exact ⟨_, r, rfl, RpS.weak (show WkS ρ ρ' from w) h1⟩
  | none :: ρ, some d :: ρ', σ, w, h => by cases w.1
  | some d' :: ρ, some d :: ρ', σ, w, h => by
    obtain ⟨e, w⟩ := w
    cases e
    obtain ⟨x, r, rfl, h0, h1⟩ := h
    exact ⟨x, r, rfl, h0, RpS.weak w h1⟩
def Weak (s s' : Sd) : Prop := WkS s.ρ s'.ρ ∧ Inc s'.M s.M
theorem es_weak {K : Kx} {s : Sd} {P : Pd} {ts : TS} (h : Es K ts s { P with nx := fun s' => ∃ s3, Weak s' s3 ∧ P.nx s3, ct := fun s' => ∃ s3, Weak s' s3 ∧ P.ct s3 }) : Es K ts s P := fun S H σ N A r l =>
  h S H σ N A r ⟨fun s' S' H' σ' ⟨s3, w, q⟩ e A' r' => l.nx s3 S' H' σ' q e (A'.less w.2) (r'.weak w.1), l.rt, l.bk, fun s' S' H' σ' ⟨s3, w, q⟩ e A' r' => l.ct s3 S' H' σ' q e (A'.less w.2) (r'.weak w.1)⟩
/-- the state ahead is told with less -/
theorem es_less {K : Kx} {s s' : Sd} {P : Pd} {ts : TS} (w : Weak s s') (h : Es K ts s' P) : Es K ts s P := fun S H σ N A r l => h S H σ N (A.less w.2) (r.weak w.1) l
/-- a cut, told with less -/
theorem es_cutW {K : Kx} {s : Sd} {P : Pd} {ts tr : TS} (I : Sd → Prop) (h1 : Es K ts s { P with nx := fun s' => ∃ s3, Weak s' s3 ∧ I s3 }) (h2 : ∀ s', I s' → Es K tr s' P) : Es K (tSeq ts tr) s P := es_cut _ h1 fun _ ⟨s3, w, i⟩ => es_less w (h2 s3 i)
/-! ### the law's call -/
theorem rpl_ints {K : PySem.W.Frag} {S : Hp} : ∀ ns : List Int, RpL K S (ns.map D.int) (ns.map V.int)
  | [] => RpL.nil
  | n :: ns => RpL.cons Rp.int (rpl_ints ns)
theorem law_sp {K : PySem.W.Frag} {H : Hp} {T : DSp} {a : Addr} {ns : List Int} {E : XK} (hs : SqL K H a (ns.map V.int)) (hT : ∀ (R : D → MM → Prop), (∀ M', R (.bl true) M') → T [.frz (ns.map .int)] (fun _ => none) R) : spOf K T [.ref a] H (fun v _ => v = .bl true) E :=
  ⟨H, fun _ => none, [.frz (ns.map .int)], fun d _ => d = .bl true, ⟨Ex.refl H, fun _ _ h => (nomatch h)⟩, RpL.cons (Rp.frz hs (rpl_ints ns)) RpL.nil, hT _ fun _ => rfl, fun d M' v S' H' hd _ _ r => by
    subst hd
    exact r.bl_of⟩
end DL


/-! DX: more readings over data: exceptions, order of data, isinstance, texts, tuples, walks by steps, thicker states. -/
namespace L2
open PySem PySem.Spec PyProof.Rows
/-- raise of an own class -/
def tRaise (W : WX) (C : Value) : TS := fun _ σ H => W C none σ H
theorem ps_raiseD {X : Cx} {W : WX} {C : Addr} {bmB : List Value} {B newId initId : String} {x m : Str} {j : Nat} {p p2 pos pos' : Pos} (F : ExcBaseFacts B newId initId bmB) (tk : Takes X W) (q : PySem.W.excIn X.K C bmB newId = true) (gC : X.mg x = some (.ref C)) (kC : PySem.W.keepIn X.K (.ref C) = true) (r : Raises X (.ref C)) (hc : X.calm = true := by rfl) (hg : Gl X x := by rfl)
    (hdb : (x == ("__debug__" : Str)) = false := by decide) : PS X (.Raise (some (.Call (.Name x p) [.Constant (.str m) j p2] [] pos)) none pos') (tRaise W (.ref C)) := ps_raise hc tk (pmk_own F q gC kC r hg hdb)
theorem PE.cast {X : Cx} {e : Expr} {t t' : TE} (h : PE X e t) (q : t = t') : PE X e t' := q ▸ h
theorem PTs.cast {X : Cx} {e : List Expr} {t t' : TT} (h : PTs X e t) (q : t = t') : PTs X e t' := q ▸ h
theorem PSs.cast {X : Cx} {e : List Stmt} {t t' : TS} (h : PSs X e t) (q : t = t') : PSs X e t' := q ▸ h
theorem PG.cast {X : Cx} {e : Expr} {t t' : TG} (h : PG X e t) (q : t = t') : PG X e t' := q ▸ h
/-- try .. except as, plain -/
def tTryA (K : PySem.W.Frag) (c : Value) (i : Nat) (tb : WX → TS) (ts : Addr → Value → Option Addr → TS) (Wout : WX) : TS := fun D σ H => tb (wAs K c i ts Wout D) D σ H
def tTryO (K : PySem.W.Frag) (c : Value) (tb : WX → TS) (ts : Addr → Value → Option Addr → TS) (Wout : WX) : TS := fun D σ H => tb (wOnly K c ts Wout D) D σ H
section
variable {X : Cx} {x n : Str} {c : Value} {i : Nat} {body suite : List Stmt} {b₀ : Stmt} {np pos pos' : Pos} {tb : WX → TS} {ts : Addr → Value → Option Addr → TS} {Wout : WX}
theorem ps_tryA (hs : X.stack = X.env :: X.outer) (hf : X.env.frame = some X.env.locals) (hN : X.N.Nodup) (hi : X.N[i]? = some n) (hln : X.env.kindOf n = some .local) (hc : Names X x c) (tk : Takes X Wout)
    (hb : ∀ (W : WX) (pn : List (Addr × Obj)) (xe : Value → Shared → Prop), Takes (X.tr pn xe) W → PassesOwn (model X.prog X.w) X.A X.env xe → PSs (X.tr pn xe) body (tb W))
    (hsu : ∀ (a : Addr) (oe : Obj) (cls : Value) (d : Option Addr) (pn : List (Addr × Obj)), Zc cls d oe → (∃ vs, oe.data = .fields vs) → PSs (X.suite a ((a, oe) :: pn)) (b₀ :: suite) (ts a cls d)) :
    PS X (.Try body [.ExceptHandler (some (.Name x np)) (some n) (b₀ :: suite) pos'] [] [] pos) (tTryA X.K c i tb ts Wout) := ps_try_as hs hf hN hi hln hc tk hb hsu
theorem ps_tryO (hs : X.stack = X.env :: X.outer) (hf : X.env.frame = some X.env.locals) (hc : Names X x c) (tk : Takes X Wout)
    (hb : ∀ (W : WX) (pn : List (Addr × Obj)) (xe : Value → Shared → Prop), Takes (X.tr pn xe) W → PassesOwn (model X.prog X.w) X.A X.env xe → PSs (X.tr pn xe) body (tb W))
    (hsu : ∀ (a : Addr) (oe : Obj) (cls : Value) (d : Option Addr) (pn : List (Addr × Obj)), Zc cls d oe → (∃ vs, oe.data = .fields vs) → PSs (X.suite a ((a, oe) :: pn)) (b₀ :: suite) (ts a cls d)) :
    PS X (.Try body [.ExceptHandler (some (.Name x np)) none (b₀ :: suite) pos'] [] [] pos) (tTryO X.K c tb ts Wout) := ps_try_only hs hf hc tk hb hsu
end
/-- order of data -/
def rCmpD (K : PySem.W.Frag) (g : PyData → PyData → Bool) : R2 := fun x y H Q => ∃ d e, Dp K H x d ∧ Dp K H y e ∧ PySem.W.alike d e = true ∧ d ≠ .none ∧ d.depth ≤ 64 ∧ Q (.bl (g d e)) H
section
variable {X : Cx}
theorem op_ltD (hu : X.A.units + 64 < cLine) : OpR X (compareOp .Lt) (rCmpD X.K fun d e => PySem.W.dataLt d e) := by
  rintro pins s σ H x y v u Q I rx ry ⟨d, e, hd, he, al, hn, hz, q⟩
  obtain ⟨as, r1⟩ := Dp.reads I d x v hd rx
  obtain ⟨bs, r2⟩ := Dp.reads I e y u he ry
  exact PySem.W.lt_data r1 r2 al hn (by omega) ⟨.bl _, H, I, rfl, q⟩
theorem op_gtD (hu : X.A.units + 64 < cLine) : OpR X (compareOp .Gt) (rCmpD X.K fun d e => PySem.W.dataLt e d) := by
  rintro pins s σ H x y v u Q I rx ry ⟨d, e, hd, he, al, hn, hz, q⟩
  obtain ⟨as, r1⟩ := Dp.reads I d x v hd rx
  obtain ⟨bs, r2⟩ := Dp.reads I e y u he ry
  exact PySem.W.gt_data r1 r2 al hn (by omega) ⟨.bl _, H, I, rfl, q⟩
theorem op_leD (hu : X.A.units + 64 < cLine) : OpR X (compareOp .LtE) (rCmpD X.K fun d e => !PySem.W.dataLt e d) := by
  rintro pins s σ H x y v u Q I rx ry ⟨d, e, hd, he, al, hn, hz, q⟩
  obtain ⟨as, r1⟩ := Dp.reads I d x v hd rx
  obtain ⟨bs, r2⟩ := Dp.reads I e y u he ry
  exact PySem.W.le_data r1 r2 al hn (by omega) ⟨.bl _, H, I, rfl, q⟩
theorem op_geD (hu : X.A.units + 64 < cLine) : OpR X (compareOp .GtE) (rCmpD X.K fun d e => !PySem.W.dataLt d e) := by
  rintro pins s σ H x y v u Q I rx ry ⟨d, e, hd, he, al, hn, hz, q⟩
  obtain ⟨as, r1⟩ := Dp.reads I d x v hd rx
  obtain ⟨bs, r2⟩ := Dp.reads I e y u he ry
  exact PySem.W.ge_data r1 r2 al hn (by omega) ⟨.bl _, H, I, rfl, q⟩
/-- text * int -/
def rMulS : R2 := fun x y H Q => ∃ a n, x = .str a ∧ y = .int n ∧ MulOk a n ∧ Q (.str (Txt.mul a n)) H
theorem op_mulS : OpR X (binaryOp .Mult) rMulS := by
  rintro pins s σ H x y v u Q I rx ry ⟨a, n, rfl, rfl, hm, q⟩
  obtain ⟨t, rfl⟩ := rx
  obtain ⟨t', rfl⟩ := ry
  exact SB.mul hm fun t' k => ⟨.str (Txt.mul a n), H, I.tok _, ⟨_, rfl⟩, q⟩
end
/-- isinstance(e, c) of the error that the suite holds, whatever it is -/
def rIsX (K : PySem.W.Frag) (cls : Value) (d : Option Addr) (a : Addr) : List V → Hp → VK → Prop := fun xs H Q => ∃ D, cls = .ref D ∧ d = none ∧ ExcC K D ∧ rIsE K D a xs H Q
theorem call_isX {X : Cx} {a : Addr} {cls : Value} {d : Option Addr} {oe : Obj} {pn : List (Addr × Obj)} (hz : Zc cls d oe) (hf : ∃ vs, oe.data = .fields vs) : CallR (X.suite a ((a, oe) :: pn)) (.builtin "isinstance") (rIsX X.K cls d a) := by
  rintro pins s σ H xs us Q I r ⟨D, rfl, rfl, c, h⟩
  exact call_isE c hz hf pins s σ H xs us Q I r h
end L2

namespace DL
open PySem L2 Evl
section
variable {K : Kx} {s : Sd} {Q : D → Sd → Prop} {ta tb te tl : TE} {t u : TT} {d : D} {v : V} {P : Pd} {ts tr tz : TS} {g : TG} {tas : TA} {F : PySem.W.Frag} {W : WX} {XQ : XC → Sd → Prop}
theorem w_raise {C : Value} (h : XQ ⟨C, none⟩ s) : Es ⟨F, W, XQ⟩ (tRaise W C) s P := es_raise h
theorem w_callX {T : DSpX} {tr : TA} (h : Ea ⟨F, W, XQ⟩ tr s fun ds s1 => T ds s1.M (fun d M' => Q d ⟨s1.ρ, M'⟩) fun x M' => XQ x ⟨s1.ρ, M'⟩) : Ed ⟨F, W, XQ⟩ (tCallS (spOfX F T) (WE W) tr) s Q := ed_callX h
theorem w_callXL {T : DSpX} {tr : TA} (h : Ea ⟨F, W, XQ⟩ tr s fun ds s1 => T ds s1.M (fun d M' => Q d ⟨s1.ρ, M'⟩) fun x M' => ∃ M2, (∀ a o, M2 a = some o → M' a = some o) ∧ XQ x ⟨s1.ρ, M2⟩) : Ed ⟨F, W, XQ⟩ (tCallS (spOfX F T) (WE W) tr) s Q := fun S H σ A r R k =>
  h S H σ A r _ fun ds s1 vs S1 H1 h1 e1 A1 r1 rv => by
    refine ⟨S1, s1.M, ds, _, _, A1.toAt0, rv, h1, fun d M' v S' H' hq e A' rd => ?_, fun x M' d S' H' ⟨M2, hs, hq⟩ e A' rd => ?_⟩
    · exact k d ⟨s1.ρ, M'⟩ v S' H' hq (e1.trans e) (A'.up A1.xl e) (r1.mono e) rd
    · exact A1.xl x ⟨s1.ρ, M2⟩ S' H' σ d hq e (A'.less hs) (r1.mono e) rd
theorem Lk.wish {S : Hp} {N : Ends} {W' : WX} {XQ' : XC → Sd → Prop} (l : Lk ⟨F, W, XQ⟩ S P N) (x : XL ⟨F, W, XQ⟩ S) : Lk ⟨F, W', XQ'⟩ S P N :=
  ⟨fun s' S' H' σ' q e A' => l.nx s' S' H' σ' q e (At0.up (K := ⟨F, W, XQ⟩) A'.toAt0 x e), fun d M' v S' H' q e A' => l.rt d M' v S' H' q e (At0.up (K := ⟨F, W, XQ⟩) A'.toAt0 x e), fun s' S' H' σ' q e A' => l.bk s' S' H' σ' q e (At0.up (K := ⟨F, W, XQ⟩) A'.toAt0 x e), fun s' S' H' σ' q e A' => l.ct s' S' H' σ' q e (At0.up (K := ⟨F, W, XQ⟩) A'.toAt0 x e)⟩
/-- try .. except c: -/
theorem es_tryO {c : Value} {tb : WX → TS} {ts : Addr → Value → Option Addr → TS} (XQ' : XC → Sd → Prop) (h : ∀ W', Es ⟨F, W', XQ'⟩ (tb W') s P)
    (hx : ∀ x s', XQ' x s' → (PySem.W.exmOne F x.cls c = some true ∧ ∀ a d, (x.fs = none → d = none) → Es ⟨F, W, XQ⟩ (ts a x.cls d) s' P) ∨ (PySem.W.exmOne F x.cls c = some false ∧ XQ x s')) :
    Es ⟨F, W, XQ⟩ (tTryO F c tb ts W) s P := fun S H σ N A r l => by
  refine h (wOnly F c ts W N) S H σ N ⟨A.toAt0, fun x s' S' H' σ' d q e A' r' rx => ?_⟩ r (l.wish A.xl)
  have hd : x.fs = none → d = none := fun z => by
    unfold RpX at rx
    rw [z] at rx
    exact rx
  rcases hx x s' q with ⟨he, hs⟩ | ⟨he, hs⟩
  · exact ⟨true, he, fun _ a ha => hs a d hd S' H' σ' N (At0.up (K := ⟨F, W, XQ⟩) A' A.xl e) r' (l.mono e), (fun z => nomatch z)⟩
  · exact ⟨false, he, (fun z => nomatch z), fun _ => A.xl x s' S' H' σ' d hs e A' r' rx⟩
/-- try .. except c as n: (n in slot i) -/
theorem es_tryA {c : Value} {i : Nat} {tb : WX → TS} {ts : Addr → Value → Option Addr → TS} (XQ' : XC → Sd → Prop) (h : ∀ W', Es ⟨F, W', XQ'⟩ (tb W') s P)
    (hx : ∀ x s', XQ' x s' → (PySem.W.exmOne F x.cls c = some true ∧ ∀ a d, (x.fs = none → d = none) → Es ⟨F, W, XQ⟩ (ts a x.cls d) ⟨s'.ρ.set i (some (.adr a)), s'.M⟩ { P with nx := fun s2 => P.nx ⟨s2.ρ.set i none, s2.M⟩, bk := fun s2 => P.bk ⟨s2.ρ.set i none, s2.M⟩, ct := fun s2 => P.ct ⟨s2.ρ.set i none, s2.M⟩ }) ∨ (PySem.W.exmOne F x.cls c = some false ∧ XQ x s')) :
    Es ⟨F, W, XQ⟩ (tTryA F c i tb ts W) s P := fun S H σ N A r l => by
  refine h (wAs F c i ts W N) S H σ N ⟨A.toAt0, fun x s' S' H' σ' d q e A' r' rx => ?_⟩ r (l.wish A.xl)
  have hd : x.fs = none → d = none := fun z => by
    unfold RpX at rx
    rw [z] at rx
    exact rx
  rcases hx x s' q with ⟨he, hs⟩ | ⟨he, hs⟩
  · refine ⟨true, he, fun _ a ha => hs a d hd S' H' _ _ (At0.up (K := ⟨F, W, XQ⟩) A' A.xl e) (r'.set i Rp.oth) ?_, fun z => nomatch z⟩
    have l' := l.mono e
    exact ⟨fun s2 S2 H2 σ2 q2 e2 A2 r2 => l'.nx ⟨s2.ρ.set i none, s2.M⟩ S2 H2 _ q2 e2 A2 (r2.setN i), l'.rt, fun s2 S2 H2 σ2 q2 e2 A2 r2 => l'.bk ⟨s2.ρ.set i none, s2.M⟩ S2 H2 _ q2 e2 A2 (r2.setN i), fun s2 S2 H2 σ2 q2 e2 A2 r2 => l'.ct ⟨s2.ρ.set i none, s2.M⟩ S2 H2 _ q2 e2 A2 (r2.setN i)⟩
  · exact ⟨false, he, (fun z => nomatch z), fun _ => A.xl x s' S' H' σ' d hs e A' r' rx⟩
/-- isinstance of the caught error -/
theorem w_isX {a C D : Addr} {b : Bool} (hc : ExcC K.K D) (hk : PySem.W.kitOne K.K (.ref D) (.ref C) = some b) (h : Ed K ta s fun x s1 => x = .adr a ∧ Q (.bl b) s1) : Ed K (tCB (rIsX K.K (.ref D) none a) (tCons ta (tCons (tC (.ref C)) tNil))) s Q := fun S H σ A r R k =>
  h S H σ A r _ fun x s1 v S1 H1 h1 e1 A1 r1 rx => by
    obtain ⟨rfl, q⟩ := h1
    obtain rfl := rx.oth_of
    exact ⟨D, rfl, rfl, hc, _, _, b, rfl, fun u hu => hu, hk, k _ s1 _ S1 H1 q e1 A1 r1 Rp.bl⟩
/-! ### isinstance -/
def tyN : D → String
  | .non => "NoneType"
  | .bl _ => "bool"
  | .int _ => "int"
  | .str _ => "str"
  | .lst _ => "list"
  | .frz _ => "list"
  | .tup _ => "tuple"
  | .oth _ => "?"
theorem Rp.tyX {S H : Hp} (e : Ex S H) : ∀ (d : D) (v : V), (tyN d == "?") = false → Rp K.K S d v → TyX K.K H v (.type (tyN d))
  | .non, v, _, r => by rw [r.non_of]; exact .base .non
  | .bl b, v, _, r => by rw [r.bl_of]; exact .base (.bl b)
  | .int i, v, _, r => by rw [r.int_of]; exact .base (.int i)
  | .str i, v, _, r => by rw [r.str_of]; exact .base (.str i)
  | .lst xs, v, _, r => by
    obtain ⟨a, vs, rfl, h, _⟩ := r.lst_of
    exact .base (.lst (e _ _ h))
  | .frz xs, v, _, r => by
    obtain ⟨a, vs, rfl, h, _⟩ := r.frz_of
    rcases ex_l e h with h | ⟨o, its, n, h1, h2, _⟩
    · rcases h with h | ⟨o, h⟩
      · exact .base (.lst h)
      · exact .base (.frz h)
    · exact .kList h1 h2
  | .tup xs, v, _, r => by
    obtain ⟨a, vs, rfl, h, _⟩ := r.tup_of
    rcases ex_t e h with h | ⟨o, its, n, h1, h2, _⟩
    · rcases h with h | ⟨o, h⟩
      · exact .base (.tup h)
      · exact .fTuple h
    · exact .kTuple h1 h2
  | .oth u, v, h, _ => by
    rw [tyN] at h
    exact absurd h (by decide)
def IsI (x : D) (n : String) (k : Bool → Prop) : Prop := ∃ b, ((tyN x == "?") = false ∧ kitB (tyN x) n = some b) ∧ k b
theorem w_isI {n : String} (h : Ed K ta s fun x s1 => IsI x n fun b => Q (.bl b) s1) : Ed K (tCB (rIsi K.K) (tCons ta (tCons (tC (.ty n)) tNil))) s Q := fun S H σ A r R k =>
  h S H σ A r _ fun x s1 v S1 H1 h1 e1 A1 r1 rx => by
    obtain ⟨b, ⟨hn, hb⟩, q⟩ := h1
    exact ⟨v, .ty n, .type (tyN x), .type n, b, rfl, .ty n, rx.tyX A1.ex x v hn, kit_ty hb, k _ s1 _ S1 H1 q e1 A1 r1 Rp.bl⟩
theorem is_yes {x : D} {n : String} {k : Bool → Prop} (h : (tyN x == "?") = false ∧ kitB (tyN x) n = some true) (q : k true) : IsI x n k := ⟨_, h, q⟩
theorem is_no {x : D} {n : String} {k : Bool → Prop} (h : (tyN x == "?") = false ∧ kitB (tyN x) n = some false) (q : k false) : IsI x n k := ⟨_, h, q⟩
/-! ### order of data -/
def ltD (x y : D) : Bool := PySem.W.dataLt (toP x) (toP y)
def OrdOk (x y : D) : Prop := (cmpD 64 x ∧ cmpD 64 y) ∧ PySem.W.alike (toP x) (toP y) = true ∧ toP x ≠ .none
theorem w_ord {f : PyData → PyData → Bool} (h : Ed K ta s fun x s1 => Ed K tb s1 fun y s2 => Sc (OrdOk x y) (Q (.bl (f (toP x) (toP y))) s2)) : Ed K (tOp (rCmpD K.K f) ta tb) s Q := fun S H σ A r R k =>
  h S H σ A r _ fun x s1 v S1 H1 h1 e1 A1 r1 rx => h1 S1 H1 σ A1 r1 _ fun y s2 w S2 H2 h2 e2 A2 r2 ry =>
    ⟨toP x, toP y, dp_mono A2.ex _ _ ((rx.mono e2).dp 64 x v h2.1.1.1), dp_mono A2.ex _ _ (ry.dp 64 y w h2.1.1.2), h2.1.2.1, h2.1.2.2, (cmpD_lay 64 x h2.1.1.1).2, k _ s2 _ S2 H2 h2.2 (e1.trans e2) A2 r2 Rp.bl⟩
theorem w_gtD (h : Ed K ta s fun x s1 => Ed K tb s1 fun y s2 => Sc (OrdOk x y) (Q (.bl (ltD y x)) s2)) : Ed K (tOp (rCmpD K.K fun d e => PySem.W.dataLt e d) ta tb) s Q := w_ord (f := fun d e => PySem.W.dataLt e d) h
theorem w_ltD (h : Ed K ta s fun x s1 => Ed K tb s1 fun y s2 => Sc (OrdOk x y) (Q (.bl (ltD x y)) s2)) : Ed K (tOp (rCmpD K.K fun d e => PySem.W.dataLt d e) ta tb) s Q := w_ord (f := fun d e => PySem.W.dataLt d e) h
theorem w_leD (h : Ed K ta s fun x s1 => Ed K tb s1 fun y s2 => Sc (OrdOk x y) (Q (.bl (!ltD y x)) s2)) : Ed K (tOp (rCmpD K.K fun d e => !PySem.W.dataLt e d) ta tb) s Q := w_ord (f := fun d e => !PySem.W.dataLt e d) h
theorem w_geD (h : Ed K ta s fun x s1 => Ed K tb s1 fun y s2 => Sc (OrdOk x y) (Q (.bl (!ltD x y)) s2)) : Ed K (tOp (rCmpD K.K fun d e => !PySem.W.dataLt d e) ta tb) s Q := w_ord (f := fun d e => !PySem.W.dataLt d e) h
/-! ### texts, tuples -/
theorem w_mulS (h : Ed K ta s fun x s1 => Ed K tb s1 fun y s2 => S1 x fun a => I1 y fun n => Sc (MulOk a n) (Q (.str (Txt.mul a n)) s2)) : Ed K (tOp rMulS ta tb) s Q :=
  ed_opV (h.imp fun x s1 h1 => h1.imp fun y s2 ⟨a, hx, n, hy, hm, q⟩ => by
    subst hx hy
    exact ⟨.str a, .int n, fun S u hu => hu.str_of, fun S u hu => hu.int_of, .str (Txt.mul a n), fun H R hR => ⟨a, n, rfl, rfl, hm, hR⟩, q⟩)
theorem w_addS (h : Ed K ta s fun x s1 => Ed K tb s1 fun y s2 => DL.S2 x y fun a b => Sc (a.length + b.length ≤ sizeLine) (Q (.str (a ++ b)) s2)) : Ed K (tOp (fun x y H Q => ∃ i j, x = .str i ∧ y = .str j ∧ i.length + j.length ≤ sizeLine ∧ Q (.str (i ++ j)) H) ta tb) s Q :=
  ed_opV (h.imp fun x s1 h1 => h1.imp fun y s2 ⟨a, b, hx, hy, hm, q⟩ => by
    subst hx hy
    exact ⟨.str a, .str b, fun S u hu => hu.str_of, fun S u hu => hu.str_of, .str (a ++ b), fun H R hR => ⟨a, b, rfl, rfl, hm, hR⟩, q⟩)
theorem w_catT (h : Ed K ta s fun x s1 => Ed K tb s1 fun y s2 => T1 x fun xs => T1 y fun ys => Sc ((xs ≠ [] ∧ ys ≠ []) ∧ xs.length + ys.length ≤ sizeLine) (Q (.tup (xs ++ ys)) s2)) : Ed K (tOp (rCatT K.K) ta tb) s Q := fun S H σ A r R k =>
  h S H σ A r _ fun x s1 v S1 H1 h1 e1 A1 r1 rx => h1 S1 H1 σ A1 r1 _ fun y s2 w S2 H2 h2 e2 A2 r2 ry => by
    obtain ⟨xs, rfl, ys, rfl, ⟨⟨hx, hy⟩, hz⟩, q⟩ := h2
    obtain ⟨a, vs, rfl, ha, ra⟩ := (rx.mono e2).tup_of
    obtain ⟨b, us, rfl, hb, rb⟩ := ry.tup_of
    refine ⟨a, b, vs, us, rfl, rfl, ex_t A2.ex ha, ex_t A2.ex hb, fun z => ?_, by rw [← ra.length, ← rb.length]; exact hz, fun z => ?_, fun _ p hp => ?_⟩
    · subst z
      exact hx (List.eq_nil_of_length_eq_zero ra.length)
    · subst z
      exact absurd (List.eq_nil_of_length_eq_zero rb.length) hy
    · obtain ⟨A4, e4⟩ := A2.new hp (.tup (vs ++ us))
      exact k _ s2 _ _ _ q ((e1.trans e2).trans e4) A4 (r2.mono e4) (Rp.tup (SqT.of upd_same) (RpL.mono e4 _ _ (ra.append rb)))
theorem w_max2 (h : Ed K ta s fun x s1 => Ed K tb s1 fun y s2 => I2 x y fun i j => Q (.int (if j > i then j else i)) s2) : Ed K (tCB (fun xs H Q => ∃ i j, xs = [.int i, .int j] ∧ Q (.int (if j > i then j else i)) H) (tCons ta (tCons tb tNil))) s Q :=
  ed_cbV (ea_cons (h.imp fun x s1 h1 => ea_cons (h1.imp fun y s2 ⟨i, j, hx, hy, q⟩ => ea_nil (by
    subst hx hy
    refine ⟨[.int i, .int j], fun S us hu => ?_, .int (if j > i then j else i), fun H R hR => ⟨i, j, rfl, hR⟩, q⟩
    obtain ⟨v, r, rfl, h1, h2⟩ := hu.cons_of
    obtain ⟨v2, r2, rfl, h3, h4⟩ := h2.cons_of
    rw [h4.nil_of, h1.int_of, h3.int_of]))))
theorem w_min2 (h : Ed K ta s fun x s1 => Ed K tb s1 fun y s2 => I2 x y fun i j => Q (.int (if j < i then j else i)) s2) : Ed K (tCB (fun xs H Q => ∃ i j, xs = [.int i, .int j] ∧ Q (.int (if j < i then j else i)) H) (tCons ta (tCons tb tNil))) s Q :=
  ed_cbV (ea_cons (h.imp fun x s1 h1 => ea_cons (h1.imp fun y s2 ⟨i, j, hx, hy, q⟩ => ea_nil (by
    subst hx hy
    refine ⟨[.int i, .int j], fun S us hu => ?_, .int (if j < i then j else i), fun H R hR => ⟨i, j, rfl, hR⟩, q⟩
    obtain ⟨v, r, rfl, h1, h2⟩ := hu.cons_of
    obtain ⟨v2, r2, rfl, h3, h4⟩ := h2.cons_of
    rw [h4.nil_of, h1.int_of, h3.int_of]))))
/-- int(..) of an int or a truth value -/
def IB1 (x : D) (k : Int → Prop) : Prop := (∃ i, x = .int i ∧ k i) ∨ ∃ b, x = .bl b ∧ k (if b = true then 1 else 0)
theorem ib_int {i : Int} {k : Int → Prop} (h : k i) : IB1 (.int i) k := .inl ⟨i, rfl, h⟩
theorem ib_bl {b : Bool} {k : Int → Prop} (h : k (if b = true then 1 else 0)) : IB1 (.bl b) k := .inr ⟨b, rfl, h⟩
theorem w_intX (h : Ed K ta s fun x s1 => IB1 x fun i => Q (.int i) s1) : Ed K (tCB (fun xs H Q => (∃ i, xs = [.int i] ∧ Q (.int i) H) ∨ ∃ k, xs = [.bl k] ∧ Q (.int (if k then 1 else 0)) H) (tCons ta tNil)) s Q := fun S H σ A r R k =>
  h S H σ A r _ fun x s1 v S1 H1 h1 e1 A1 r1 rx => by
    rcases h1 with ⟨i, rfl, q⟩ | ⟨b, rfl, q⟩
    · refine .inl ⟨i, ?_, k _ s1 _ S1 H1 q e1 A1 r1 Rp.int⟩
      rw [rx.int_of]
    · refine .inr ⟨b, ?_, k _ s1 _ S1 H1 q e1 A1 r1 Rp.int⟩
      rw [rx.bl_of]
/-- a slice that stays mutable -/
@[irreducible] def tSlM (r : V → Option Int → Option Int → Hp → VK → Prop) (te : TE) (tl th : TO) : TE := tSl r te tl th
theorem pe_sliceM {X : Cx} {r : V → Option Int → Option Int → Hp → VK → Prop} {e : Expr} {te : TE} {tl th : TO} {lo hi : Option Expr} {p2 pos : Pos} (hr : SlR X r) (he : PE X e te) (hl : PO X lo tl) (hu : PO X hi th) : PE X (.Subscript e (.Slice lo hi none p2) pos) (tSlM r te tl th) := by
  unfold tSlM
  exact pe_slice hr he hl hu
theorem w_slM {tl th : TO} (h : Ed K te s fun x s1 => Eo K tl s1 fun lo s2 => Eo K th s2 fun hi s3 => F1 x fun xs => ∀ p, s3.M p = none → Q (.adr p) ⟨s3.ρ, updM s3.M p (.lst (cutD xs lo hi))⟩) : Ed K (tSlM (rSlL K.K) te tl th) s Q := by
  unfold tSlM
  exact fun S H σ A r R k => h S H σ A r _ fun x s1 v S1 H1 h1 e1 A1 r1 rx => h1 S1 H1 σ A1 r1 _ fun lo s2 S2 H2 h2 e2 A2 r2 => h2 S2 H2 σ A2 r2 _ fun hi s3 S3 H3 h3 e3 A3 r3 => by
    obtain ⟨xs, hx, q⟩ := h3
    obtain ⟨a, vs, rfl, hl, rl⟩ := (rx.mono (e2.trans e3)).asL_of hx
    refine ⟨a, vs, rfl, ex_l A3.ex hl, fun p hp => ?_⟩
    have A4 := A3.newM hp (o := .lst (cutV vs lo hi)) (m := .lst (cutD xs lo hi)) (rl.cut lo hi)
    exact k _ ⟨s3.ρ, updM s3.M p (.lst (cutD xs lo hi))⟩ _ _ _ (q p (A3.free hp)) ((e1.trans e2).trans e3) A4 r3 Rp.oth
/-! ### thicker states: mutable lists told as frozen ones -/
mutual
inductive Tk (M : MM) : D → D → Prop
  | same (d : D) : Tk M d d
  | fr {a : Addr} {xs ys : List D} (e : M a = some (.lst xs)) (h : TkL M xs ys) : Tk M (.oth (.ref a)) (.lst ys)
  | tup {xs ys : List D} (h : TkL M xs ys) : Tk M (.tup xs) (.tup ys)
  | lst {xs ys : List D} (h : TkL M xs ys) : Tk M (.lst xs) (.lst ys)
inductive TkL (M : MM) : List D → List D → Prop
  | nil : TkL M [] []
  | cons {x y : D} {xs ys : List D} (h : Tk M x y) (hs : TkL M xs ys) : TkL M (x :: xs) (y :: ys)
end
theorem TkL.same {M : MM} : ∀ xs : List D, TkL M xs xs
  | [] => .nil
  | x :: xs => .cons (.same x) (TkL.same xs)
/-- S1 has the objects of M besides those of S -/
def Has (K : PySem.W.Frag) (S S1 : Hp) (M : MM) : Prop := ∀ a o, M a = some o → ∃ u, S1 a = some u ∧ RpO K S o u
mutual
theorem Tk.rp {F : PySem.W.Frag} {S S1 : Hp} {M : MM} (e : Ex S S1) (h : Has F S S1 M) : ∀ {d d' : D}, Tk M d d' → ∀ {v : V}, Rp F S d v → Rp F S1 d' v
  | _, _, .same d, v, r => r.mono e
  | _, _, .fr em ht, v, r => by
    obtain rfl := r.oth_of
    obtain ⟨u, h1, ro⟩ := h _ _ em
    obtain ⟨us, rfl, rl⟩ := ro.lst_of
    exact Rp.lst h1 (TkL.rp e h ht rl)
  | _, _, .tup ht, v, r => by
    obtain ⟨a, vs, rfl, h1, rl⟩ := r.tup_of
    exact Rp.tup (ex_t e h1) (TkL.rp e h ht rl)
  | _, _, .lst ht, v, r => by
    obtain ⟨a, vs, rfl, h1, rl⟩ := r.lst_of
    exact Rp.lst (e _ _ h1) (TkL.rp e h ht rl)
theorem TkL.rp {F : PySem.W.Frag} {S S1 : Hp} {M : MM} (e : Ex S S1) (h : Has F S S1 M) : ∀ {ds ds' : List D}, TkL M ds ds' → ∀ {vs : List V}, RpL F S ds vs → RpL F S1 ds' vs
  | _, _, .nil, vs, r => by rw [r.nil_of]; exact RpL.nil
  | _, _, .cons hx hs, vs, r => by
    obtain ⟨v, us, rfl, r1, r2⟩ := r.cons_of
    exact RpL.cons (Tk.rp e h hx r1) (TkL.rp e h hs r2)
end
/-- slots; none: told no more -/
inductive TkS (M : MM) : List (Option D) → List (Option D) → Prop
  | nil : TkS M [] []
  | drop {x : Option D} {r r' : List (Option D)} (h : TkS M r r') : TkS M (x :: r) (none :: r')
  | cons {x y : D} {r r' : List (Option D)} (h : Tk M x y) (hs : TkS M r r') : TkS M (some x :: r) (some y :: r')
theorem TkS.rp {F : PySem.W.Frag} {S S1 : Hp} {M : MM} (e : Ex S S1) (h : Has F S S1 M) {r r' : List (Option D)} (t : TkS M r r') : ∀ {σ : St}, RpS F S r σ → RpS F S1 r' σ := by
  induction t with
  | nil => intro σ h; exact h
  | @drop x r r' ht ih =>
    intro σ h
    cases x with
    | none =>
      obtain ⟨x, us, rfl, h1⟩ := h
      exact ⟨x, us, rfl, ih h1⟩
    | some d =>
      obtain ⟨x, us, rfl, _, h1⟩ := h
      exact ⟨_, us, rfl, ih h1⟩
  | cons hx hs ih =>
    intro σ h'
    obtain ⟨x, us, rfl, h0, h1⟩ := h'
    exact ⟨x, us, rfl, hx.rp e h h0, ih h1⟩
/-- the objects of M that M2 has no more -/
def Tf (M M2 : MM) : MM := fun a => match M2 a with
  | some _ => none
  | none => M a
theorem tf_some {M M2 : MM} {a : Addr} {o : MO} (h : Tf M M2 a = some o) : M2 a = none ∧ M a = some o := by
  unfold Tf at h
  cases e : M2 a with
  | some u => rw [e] at h; cases h
  | none => rw [e] at h; exact ⟨rfl, h⟩
def Sub (M2 M : MM) : Prop := ∀ a o, M2 a = some o → M a = some o
theorem At.thick {S H : Hp} {M M2 : MM} (A : At K S H M) (h : Sub M2 M) : ∃ S1, At K S1 H M2 ∧ Ex S S1 ∧ Has K.K S S1 (Tf M M2) := by
  have hS : ∀ a o, M a = some o → S a = none := fun a o e => (A.mm a o e).1
  let S1 : Hp := fun b => match Tf M M2 b with
    | some _ => H b
    | none => S b
  have s1 : ∀ b o, Tf M M2 b = some o → S1 b = H b := fun b o e => by show (match Tf M M2 b with | some _ => H b | none => S b) = H b; rw [e]
  have s2 : ∀ b, Tf M M2 b = none → S1 b = S b := fun b e => by show (match Tf M M2 b with | some _ => H b | none => S b) = S b; rw [e]
  have ex : Ex S S1 := fun b u eb => by
    cases e : Tf M M2 b with
    | none => rw [s2 b e]; exact eb
    | some o => rw [hS b o (tf_some e).2] at eb; cases eb
  refine ⟨S1, ⟨⟨fun b u eb => ?_, fun a o e => ?_⟩, A.xl.mono ex⟩, ex, fun a o e => ?_⟩
  · cases e : Tf M M2 b with
    | none => rw [s2 b e] at eb; exact A.ex b u eb
    | some o => rw [s1 b o e] at eb; exact eb
  · have e0 : Tf M M2 a = none := by unfold Tf; rw [e]
    obtain ⟨h1, u, h2, h3⟩ := A.mm a o (h a o e)
    exact ⟨by rw [s2 a e0]; exact h1, u, h2, h3.mono ex⟩
  · obtain ⟨h1, u, h2, h3⟩ := A.mm a o (tf_some e).2
    exact ⟨u, by rw [s1 a o e]; exact h2, h3⟩
structure Thick (s s2 : Sd) : Prop where
  le : Sub s2.M s.M
  sl : TkS (Tf s.M s2.M) s.ρ s2.ρ
theorem es_thick {s2 : Sd} (w : Thick s s2) (h : Es K ts s2 P) : Es K ts s P := fun S H σ N A r l => by
  obtain ⟨S1, A1, e, hh⟩ := A.thick w.le
  exact h S1 H σ N A1 (w.sl.rp e hh r) (l.mono e)
theorem ed_thick (h : Ed K te s fun d s' => ∃ d' s2, Thick s' s2 ∧ Tk (Tf s'.M s2.M) d d' ∧ Q d' s2) : Ed K te s Q := fun S H σ A r R k =>
  h S H σ A r R fun d s' v S' H' ⟨d', s2, w, t, q⟩ e A' r' rv => by
    obtain ⟨S1, A1, e1, hh⟩ := A'.thick w.le
    exact k d' s2 v S1 H' q (e.trans e1) A1 (w.sl.rp e1 hh r') (t.rp e1 hh rv)
/-- a test on the thick state; behind it all is as before -/
theorem et_thick {Q : Bool → Sd → Prop} {s2 : Sd} (w : Thick s s2) (hz : ∀ a, s2.M a = none) (h : Et K t s2 fun b _ => Q b s) : Et K t s Q := fun S H σ A r R k => by
  obtain ⟨S1, A1, e, hh⟩ := A.thick w.le
  refine h S1 H σ A1 (w.sl.rp e hh r) R fun b s' S' H' q e2 A' r' => k b s S H' q (Ex.refl S) ⟨⟨fun b u eb => A'.ex b u (e2 b u (e b u eb)), fun a o em => ?_⟩, A.xl⟩ r
  obtain ⟨h1, u, h2, h3⟩ := A.mm a o em
  obtain ⟨u', h4, h5⟩ := hh a o (by unfold Tf; rw [hz a]; exact em)
  exact ⟨h1, u', A'.ex a u' (e2 a u' h4), h5⟩
/-! ### blocks over a list of any kind -/
theorem ed_lcQx {α : Type} {wi : TI} {vs : List Nat} (f : α → D) (p : α → Bool) (gO : α → D) (hw : Wp g vs) (h : Ei K wi s fun ds s' => ∃ xs : List α, ds = xs.map f ∧ xs.length ≤ sizeLine ∧ (∀ x ∈ xs, ∀ M, (∀ a o, s'.M a = some o → M a = some o) → Eg K g (f x) ⟨wipeD s'.ρ vs, M⟩ fun s2 => Et K t s2 fun b s3 =>
    b = p x ∧ (b = true → Ed K te s3 fun y s4 => s4.M = M ∧ y = gO x) ∧ (b = false → s3.M = M)) ∧ Q (.lst ((xs.filter p).map gO)) s') : Ed K (tLc wi g t te vs) s Q := by
  refine ed_lc hw ?_
  intro S H σ A r R k
  refine h S H σ A r R fun ds s' J S' H' q e A' r' hJ => k ds s' J S' H' ?_ e A' r' hJ
  obtain ⟨xs, rfl, hz, hx, q⟩ := q
  intro a hp
  have go : ∀ (ys pre : List α), pre ++ ys = xs → Lc K g t te s'.ρ (wipeD s'.ρ vs) Q a (ys.map f) ((pre.filter p).map gO) (updM s'.M a (.lst ((pre.filter p).map gO))) := by
    intro ys
    induction ys with
    | nil =>
      intro pre e
      rw [List.append_nil] at e
      subst e
      refine ⟨updM_same, ?_⟩
      rw [delM_updM hp]
      exact q
    | cons x ys ih =>
      intro pre e
      refine ⟨updM_same, ?_⟩
      have hmem : x ∈ xs := by rw [← e]; simp
      have hlen : ((pre.filter p).map gO).length < sizeLine := by
        rw [List.length_map]
        have h1 := List.length_filter_le p pre
        have h2 : pre.length < xs.length := by rw [← e]; simp
        omega
      intro S1 H1 σ1 v1 A1 r1 rv1 R1 k1
      refine hx x hmem _ (fun c o ha => updM_get (mm_ne ha hp) ha) S1 H1 σ1 v1 A1 r1 rv1 R1 fun s2 S2 H2 σ2 q2 e2 A2 r2 => k1 s2 S2 H2 σ2 ?_ e2 A2 r2
      refine q2.imp fun b s3 ⟨hb0, q3, q4⟩ => ⟨fun hb => (q3 hb).imp fun y s4 q5 => ?_, fun hb => ?_⟩
      · obtain ⟨hM, rfl⟩ := q5
        refine ⟨by rw [hM]; exact updM_same, hlen, ?_⟩
        rw [hM, updM_updM]
        have := ih (pre ++ [x]) (by rw [List.append_assoc]; exact e)
        rw [List.filter_append, List.filter_cons, if_pos (by rw [← hb0]; exact hb), List.filter_nil, List.map_append] at this
        exact this
      · rw [q4 hb]
        refine ⟨updM_same, ?_⟩
        have := ih (pre ++ [x]) (by rw [List.append_assoc]; exact e)
        rw [List.filter_append, List.filter_cons, if_neg (by rw [← hb0, hb]; exact Bool.false_ne_true), List.filter_nil, List.append_nil] at this
        exact this
  exact go xs [] rfl
/-- .. without a test -/
theorem ed_lcAx {α : Type} {wi : TI} {vs : List Nat} (f : α → D) (gO : α → D) (hw : Wp g vs) (h : Ei K wi s fun ds s' => ∃ xs : List α, ds = xs.map f ∧ xs.length ≤ sizeLine ∧ (∀ x ∈ xs, ∀ M, (∀ a o, s'.M a = some o → M a = some o) → Eg K g (f x) ⟨wipeD s'.ρ vs, M⟩ fun s2 => Ed K te s2 fun y s4 => s4.M = M ∧ y = gO x) ∧ Q (.lst (xs.map gO)) s') : Ed K (tLc wi g tYes te vs) s Q := by
  refine ed_lcQx f (fun _ => true) gO hw ?_
  intro S H σ A r R k
  refine h S H σ A r R fun ds s' J S' H' q e A' r' hJ => k ds s' J S' H' ?_ e A' r' hJ
  obtain ⟨xs, rfl, hz, hx, q⟩ := q
  refine ⟨xs, rfl, hz, fun x hm M hM => ?_, by rw [List.filter_eq_self.mpr fun _ _ => rfl]; exact q⟩
  intro S1 H1 σ1 v1 A1 r1 rv1 R1 k1
  refine hx x hm M hM S1 H1 σ1 v1 A1 r1 rv1 R1 fun s2 S2 H2 σ2 q2 e2 A2 r2 => k1 s2 S2 H2 σ2 ?_ e2 A2 r2
  exact et_yes ⟨rfl, fun _ => q2, fun z => by cases z⟩
theorem ed_lcQ {α : Type} {wi : TI} {vs : List Nat} (xs : List α) (f : α → D) (p : α → Bool) (gO : α → D) (hw : Wp g vs) (h : Ei K wi s fun ds s' => ds = xs.map f ∧ xs.length ≤ sizeLine ∧ (∀ x ∈ xs, ∀ M, (∀ a o, s'.M a = some o → M a = some o) → Eg K g (f x) ⟨wipeD s'.ρ vs, M⟩ fun s2 => Et K t s2 fun b s3 =>
    b = p x ∧ (b = true → Ed K te s3 fun y s4 => s4.M = M ∧ y = gO x) ∧ (b = false → s3.M = M)) ∧ Q (.lst ((xs.filter p).map gO)) s') : Ed K (tLc wi g t te vs) s Q :=
  ed_lcQx f p gO hw fun S H σ A r R k => h S H σ A r R fun ds s' J S' H' q => k ds s' J S' H' ⟨xs, q⟩
theorem ed_lcA {α : Type} {wi : TI} {vs : List Nat} (xs : List α) (f : α → D) (gO : α → D) (hw : Wp g vs) (h : Ei K wi s fun ds s' => ds = xs.map f ∧ xs.length ≤ sizeLine ∧ (∀ x ∈ xs, ∀ M, (∀ a o, s'.M a = some o → M a = some o) → Eg K g (f x) ⟨wipeD s'.ρ vs, M⟩ fun s2 => Ed K te s2 fun y s4 => s4.M = M ∧ y = gO x) ∧ Q (.lst (xs.map gO)) s') : Ed K (tLc wi g tYes te vs) s Q :=
  ed_lcAx f gO hw fun S H σ A r R k => h S H σ A r R fun ds s' J S' H' q => k ds s' J S' H' ⟨xs, q⟩
/-! ### range with a step -/
def rangeC (lo c : Int) (n : Nat) : List D := (List.range n).map fun (i : Nat) => D.int (lo + (i : Int) * c)
theorem rangeC_length {lo c : Int} {n : Nat} : (rangeC lo c n).length = n := by
  unfold rangeC
  rw [List.length_map, List.length_range]
theorem rangeC_get {lo c : Int} {n i : Nat} {d : D} (h : (rangeC lo c n)[i]? = some d) : i < n ∧ d = .int (lo + (i : Int) * c) := by
  have hi : i < n := by have := (List.getElem?_eq_some_iff.mp h).1; rw [rangeC_length] at this; exact this
  unfold rangeC at h
  rw [List.getElem?_map, List.getElem?_range hi] at h
  exact ⟨hi, (Option.some.inj h).symm⟩
theorem itOk_rangeC {S : Hp} {lo c : Int} {n : Nat} : ItOk K S (rangeC lo c n) (Itc lo c n) := ⟨fun i d S2 H2 M2 hi e2 A2 => by
    obtain ⟨h1, rfl⟩ := rangeC_get hi
    refine ⟨h1, fun x H3 ⟨e3, hx⟩ => ?_⟩
    subst e3 hx
    exact ⟨S2, Ex.refl _, A2, Rp.int⟩, fun S2 H2 M2 e2 A2 => Nat.le_of_eq rangeC_length.symm⟩
def I3 (x y z : D) (k : Int → Int → Int → Prop) : Prop := ∃ i j c, x = .int i ∧ y = .int j ∧ z = .int c ∧ k i j c
theorem i3 {i j c : Int} {k : Int → Int → Int → Prop} (h : k i j c) : I3 (.int i) (.int j) (.int c) k := ⟨i, j, c, rfl, rfl, rfl, h⟩
theorem ei_rng3 {ta : TA} {Q : List D → Sd → Prop} (h : Ea K ta s fun xs s' => ∃ i j c : Int, xs = [.int i, .int j, .int c] ∧ ∃ n, RgC i j c n ∧ Q (rangeC i c n) s') : Ei K (iRng3 ta) s Q := fun S H σ A r R k =>
  h S H σ A r _ fun d s' vs S' H' q e A' r' rv => by
    obtain ⟨i, j, c, rfl, n, hc, hl⟩ := q
    obtain ⟨v, rr, rfl, rv1, rv2⟩ := rv.cons_of
    obtain ⟨v', rr', rfl, rv3, rv4⟩ := rv2.cons_of
    obtain ⟨v'', rr'', rfl, rv5, rv6⟩ := rv4.cons_of
    obtain rfl := rv6.nil_of
    obtain rfl := rv1.int_of
    obtain rfl := rv3.int_of
    obtain rfl := rv5.int_of
    exact ⟨i, j, c, n, rfl, hc, k _ s' _ S' H' hl e A' r' itOk_rangeC⟩
theorem w_iR3 {tc : TE} {Q : List D → Sd → Prop} (h : Ed K ta s fun d s1 => Ed K tb s1 fun e s2 => Ed K tc s2 fun f s' => I3 d e f fun i j c => ∃ n, RgC i j c n ∧ Q (rangeC i c n) s') : Ei K (iRng3 (tCons ta (tCons tb (tCons tc tNil)))) s Q :=
  ei_rng3 (ea_cons (h.imp fun _ _ h1 => ea_cons (h1.imp fun _ _ h2 => ea_cons (h2.imp fun _ _ ⟨i, j, c, e1, e2, e3, q⟩ => ea_nil ⟨i, j, c, by rw [e1, e2, e3], q⟩))))
theorem rgC_up {i j c : Int} (hi : 0 ≤ i) (hj : i ≤ j) (hj2 : j < 2 ^ 60) (hc : 1 ≤ c) (hc2 : c < 1073741824) : RgC i j c ((j - i + c - 1) / c).toNat := by
  have h0 : 0 ≤ (j - i + c - 1) / c := Int.ediv_nonneg (by omega) (by omega)
  have hs : Builtin.Range.rangeSize i j c = (j - i + c - 1) / c := by
    unfold Builtin.Range.rangeSize
    rw [if_pos (by omega)]
    by_cases h : i < j
    · rw [if_pos h, show j - i + c - 1 = (j - i - 1) + 1 * c from by omega, Int.add_mul_ediv_right _ _ (by omega)]
    · rw [if_neg h, show j - i + c - 1 = c - 1 from by omega, Int.ediv_eq_zero_of_lt (by omega) (by omega)]
  have hle : (j - i + c - 1) / c ≤ j - i + c - 1 := Int.ediv_le_self _ (by omega)
  refine ⟨by omega, by omega, ?_, by rw [hs, Int.toNat_of_nonneg h0]⟩
  unfold Builtin.Range.small
  rw [hs]
  simp only [Builtin.Range.rangeFitsLong, Bool.and_eq_true, Bool.or_eq_true, decide_eq_true_eq, beq_iff_eq]
  rw [if_pos (by omega)]
  simp only [Bool.and_eq_true, decide_eq_true_eq]
  omega
end
/-- an own error class over ValueError without __init__ -/
structure XCl (K : PySem.W.Frag) (mg : Str → Option Value) (x : Str) (C : Addr) : Prop where
  g : mg x = some (.ref C)
  q : PySem.W.excIn K C [.type "ValueError", .type "Exception", .type "BaseException", .type "object"] "ValueError.__new__" = true
  k : PySem.W.keepIn K (.ref C) = true
  b : PySem.W.subIn K (.ref C) (.type "BaseException") = some true
  t : PySem.W.typeIn K (.ref C) = some (.type "type")
theorem XCl.r {X : Cx} {mg : Str → Option Value} {x : Str} {C : Addr} (h : XCl X.K mg x C) : Raises X (.ref C) := raises_own h.b h.t
theorem bn_non {A B : Prop} (h : A) : Br (isN .non) A B := br_true h
theorem bn_int {i : Int} {A B : Prop} (h : B) : Br (isN (.int i)) A B := br_false h
theorem bn_str {i : Str} {A B : Prop} (h : B) : Br (isN (.str i)) A B := br_false h
theorem bn_bl {i : Bool} {A B : Prop} (h : B) : Br (isN (.bl i)) A B := br_false h
theorem bn_lst {i : List D} {A B : Prop} (h : B) : Br (isN (.lst i)) A B := br_false h
theorem bn_frz {i : List D} {A B : Prop} (h : B) : Br (isN (.frz i)) A B := br_false h
theorem bn_tup {i : List D} {A B : Prop} (h : B) : Br (isN (.tup i)) A B := br_false h
theorem bn_adr {i : Addr} {A B : Prop} (h : B) : Br (isN (.adr i)) A B := br_false h
end DL


/-! RL: list(reversed(tuple)). -/
namespace RT
open PySem PySem.Spec PyProof.Rows
theorem nolen_rt : typeLookup (.type "reversed") "__len__" = pure none := by rw [typeLookup_type, builtinLookup_eq_fast]; kernel_rfl
theorem slot_rt_hint : Slot "reversed" "__length_hint__" "reversed.__length_hint__" :=
  .of (owner := "reversed") (n := "__length_hint__") (by rw [typeLookup_type, builtinLookup_eq_fast]; kernel_rfl) (by decide +kernel) (by decide +kernel) (by decide +kernel)
    (by first | exact .inl (by decide +kernel) | exact .inr (by decide +kernel)) (by rw [isSubtype_type]; kernel_rfl)
theorem entry_rt_hint : entryFor table "reversed.__length_hint__" = some Builtin.«reversed.__length_hint__» := entryFor_of_tree (by kernel_rfl)
theorem args_rt_hint (a : Value) : argsOk "reversed.__length_hint__" ⟨[a], []⟩ := by
  unfold argsOk; rw [signature?_of (id := "reversed.__length_hint__") (n := ['_', '_', 't', 'n', 'i', 'h', '_', 'h', 't', 'g', 'n', 'e', 'l', '_', '_']) (o := ['d', 'e', 's', 'r', 'e', 'v', 'e', 'r']) (by kernel_rfl) owner_rt]; kernel_rfl
section
variable {prog : Program} {w : World} {A : Around} {E : Value → Shared → Prop} {s : Shared}
theorem meets_rt_hint {it t : Addr} {items : Array Value} {Q : Value → Shared → Prop} (hit : IsRt s.heap it t ((items.size : Int) - 1)) (ht : IsTup s.heap t items) (hsz : items.size ≤ sizeLine)
    (hQ : ∀ (k tk : Nat), Q (.int items.size k) { s with toks := tk }) : wpAny (model prog w) A (Builtin.«reversed.__length_hint__» ⟨[.ref it], []⟩) (fun fin s' => ∃ v, fin = .done (.ret v) ∧ Q v s') E s := by
  obtain ⟨o, ho, hc, hd⟩ := id hit
  rw [sizeLine_eq] at hsz
  unfold Builtin.«reversed.__length_hint__»
  refine wpAny_bind (wpAny_of_eq (a := Value.ref it) rfl ?_)
  try dsimp only
  refine wpAny_bind (wpAny_field ho hd (x := .ref t) rfl ?_)
  try dsimp only
  rw [if_neg (show ¬ ((Value.ref t == Value.none) = true) from Bool.false_ne_true)]
  refine wpAny_bind (len_tuple ht (by omega) ?_)
  refine wpAny_bind (wpAny_of_eq (a := some ((items.size : Nat) : Int)) rfl ?_)
  try dsimp only
  refine wpAny_bind (wpAny_field (s := { s with toks := s.toks + 1 + 1 }) ho hd (x := rawInt ((items.size : Int) - 1)) rfl ?_)
  try dsimp only
  show wpAny _ _ (if (items.size : Int) < (items.size : Int) - 1 + 1 then _ else _) _ _ _
  rw [if_neg (by omega)]
  rw [show (items.size : Int) - 1 + 1 = (items.size : Int) from by omega]
  show wpAny _ _ (mkInt (items.size : Int) >>= fun v => ret v) _ _ _
  refine wpAny_bind (wpAny_mkInt ?_)
  exact wpAny_pure ⟨_, rfl, hQ _ _⟩
theorem hint_rt {it t : Addr} {items : Array Value} {Q : Bool → Shared → Prop} (hit : IsRt s.heap it t ((items.size : Int) - 1)) (ht : IsTup s.heap t items) (hsz : items.size ≤ sizeLine)
    (hQ : ∀ (b : Bool) (tk : Nat), Q b { s with toks := tk }) : wpAny (model prog w) A (Builtin.List.listLengthHint (.ref it)) Q E s := by
  unfold Builtin.List.listLengthHint
  refine wpAny_bind (wpAny_specialOf hit.typeIs nolen_rt ?_)
  show wpAny _ A (specialOf (Value.ref it) (Str.ofString "__length_hint__") >>= _) _ _ _
  refine wpAny_bind (wpAny_specialOf hit.typeIs slot_rt_hint.lookup ?_)
  generalize hid : ("reversed.__length_hint__" : String) = id0
  wp_delta
  rw [show splitId id0 = some ("reversed", "__length_hint__") from by subst hid; decide +kernel]
  subst hid
  refine wpAny_bind (wpAny_isInstance (b := true) hit.typeIs (by rw [isSubtype_type]; kernel_rfl) ?_)
  refine wpAny_ite_split (fun hab => absurd hab (by decide)) (fun _ => ?_)
  refine wpAny_ite_split (fun hab => absurd hab (by decide +kernel)) (fun _ => ?_)
  refine wpAny_bind (wpAny_rule ?_)
  refine wpAny_bind (wpAny_of_eq (slot_rt_hint.bind _) ?_)
  refine wpAny_bind (wpAny_attempt (wpAny_call_entry slot_rt_hint hit.typeIs entry_rt_hint ?_ (args_rt_hint _)))
  refine meets_rt_hint hit ht hsz fun k tk => ?_
  rw [sizeLine_eq] at hsz
  show wpAny _ _ (asInt? (Value.int (items.size : Int) k) >>= _) _ _ _
  have ha : asInt? (Value.int (items.size : Int) k) = pure (some (items.size : Int)) := rfl
  refine wpAny_bind ?_
  rw [ha]
  refine wpAny_pure ?_
  try dsimp only
  have f1 : Builtin.List.listFitsIndex ((items.size : Nat) : Int) = true := by
    have h0 : -(2 ^ 63 : Int) ≤ ((items.size : Nat) : Int) := by omega
    have h1 : ((items.size : Nat) : Int) < 2 ^ 63 := by omega
    unfold Builtin.List.listFitsIndex
    rw [decide_eq_true h0, decide_eq_true h1]
    rfl
  have f2 : ¬ Builtin.List.listTooLong ((items.size : Nat) : Int).toNat = true := by
    have h1 : ¬ ((items.size : Nat) : Int).toNat > sizeLine := by rw [sizeLine_eq]; omega
    unfold Builtin.List.listTooLong
    rw [decide_eq_false h1]
    exact Bool.false_ne_true
  generalize Builtin.List.listFitsIndex ((items.size : Nat) : Int) = fb at f1 ⊢
  generalize Builtin.List.listTooLong ((items.size : Nat) : Int).toNat = fc at f2 ⊢
  subst f1
  have f2 : fc = false := by cases fc <;> simp at f2 ⊢
  subst f2
  refine wpAny_ite_split (fun hab => absurd hab (by decide)) (fun _ => ?_)
  refine wpAny_ite_split (fun hab => absurd hab (by omega)) (fun _ => ?_)
  refine wpAny_ite_split (fun hab => absurd hab (by decide)) (fun _ => ?_)
  exact wpAny_pure (hQ _ _)
theorem walks_rt {it t : Addr} {items : Array Value} (hh : A.handled = none) (hne : t ≠ it) (hsz : items.size ≤ sizeLine) :
    Walks prog w A it [it, t] [it] items.size (fun i v => items[items.size - 1 - i]? = some v) (fun i h => i ≤ items.size ∧ IsRt h it t ((items.size : Int) - 1 - (i : Nat)) ∧ IsTup h t items) where
  sub := fun b hb => by simp at hb; simp [hb]
  frame := fun _ _ _ st hk => ⟨st.1, st.2.1.at fun ob e => hk it (by simp) ob e, let ⟨o, e, c⟩ := st.2.2; ⟨o, hk t (by simp) o e, c⟩⟩
  item := fun i s Q E hi st hQ => by
    obtain ⟨_, hit, ht⟩ := st
    have e1 : (items.size : Int) - 1 - ((i : Nat) : Int) = ((items.size - 1 - i : Nat) : Int) := by omega
    rw [e1] at hit
    have hx : items[items.size - 1 - i]? = some items[items.size - 1 - i] := Array.getElem?_eq_getElem (by omega)
    refine next_rt_item hit ht hx hsz fun h' st' sb => ?_
    have e2 : ((items.size - 1 - i : Nat) : Int) - 1 = (items.size : Int) - 1 - ((i + 1 : Nat) : Int) := by omega
    rw [e2] at st'
    exact hQ _ h' (s.toks + 1) hx ⟨hi, st', let ⟨o, e, c⟩ := ht; ⟨o, (sb.2 t hne).trans e, c⟩⟩ fun b ob hb e => (sb.2 b (fun z => hb (by simp [z]))).trans e
  done := fun s Q E st hQ => by
    obtain ⟨_, hit, ht⟩ := st
    rw [show (items.size : Int) - 1 - ((items.size : Nat) : Int) = -1 by omega] at hit
    exact next_rt_end hh hit fun h' he' => hQ h' s.toks fun b ob hb e => he' b ob (fun z => hb (by simp [z])) e
  self := fun _ _ _ _ st hQ => iter_rt st.2.1 hQ
theorem call_list_rt {it t : Addr} {items : Array Value} {Q : Value → Shared → Prop} (hh : A.handled = none) (hit : IsRt s.heap it t ((items.size : Int) - 1)) (ht : IsTup s.heap t items) (hne : t ≠ it) (hn : items.size ≤ sizeLine)
    (hQ : ∀ (h' : Heap) (tk : Nat) (acc : Array Value) (c' : Nat), (∀ b o, b ≠ it → s.heap.get? b = some o → h'.get? b = some o) → h'.get? s.heap.objs.size = some { cls := .type "list", dict := none, data := .seq acc c', slots := #[] } →
      ItemsOf (fun i v => items[items.size - 1 - i]? = some v) acc items.size → Q (.ref s.heap.objs.size) { s with heap := h', toks := tk }) :
    wpAny (model prog w) A (call (.type "list") [.ref it]) Q E s := by
  refine callType_codes (Q₁ := fun obj s₁ => obj = .ref s.heap.objs.size ∧ s₁ = { s with heap := s.heap.push { cls := .type "list", data := .seq #[] } }) PySem.F.called_list (PySem.F.typeCall_list_1 _) PySem.F.entry_list_init
    (code_list_new _ ⟨rfl, rfl⟩) fun obj s₁ h₁ => ?_
  obtain ⟨rfl, rfl⟩ := h₁
  have hS : (s.heap.push { cls := .type "list", data := .seq #[] }).get? s.heap.objs.size = some { cls := .type "list", data := .seq #[] } := Heap.get?_push_size _ rfl
  obtain ⟨oi, hoi, _⟩ := id hit
  obtain ⟨ot, hot, _⟩ := id ht
  have hSi : s.heap.objs.size ≠ it := Nat.ne_of_gt (Heap.lt_size hoi)
  have hSt : s.heap.objs.size ≠ t := Nat.ne_of_gt (Heap.lt_size hot)
  refine ⟨⟨_, hS, rfl⟩, PySem.F.args_list_init_2 _ _, ?_⟩
  show wpAny _ A.in1.in1 (do let old ← Builtin.List.listItems (.ref s.heap.objs.size); Builtin.List.listUpdate (.ref s.heap.objs.size) (fun _ => #[]); letGo old.toList.reverse; Builtin.List.listExtendWith (.ref s.heap.objs.size) (.ref it) .none) _ _ _
  refine wpAny_bind ?_
  unfold Builtin.List.listItems
  refine wpAny_bind (wpAny_seqItems hS rfl (wpAny_pure ?_))
  show wpAny _ _ (updateSeq s.heap.objs.size (fun _ => #[]) >>= fun _ => letGo (#[] : Array Value).toList.reverse >>= fun _ => Builtin.List.listExtendWith (.ref s.heap.objs.size) (.ref it) .none) _ _ _
  refine wpAny_bind (wpAny_updateSeq hS rfl ?_)
  have hS₂ := Heap.get?_update_self (Obj.mapSeq (fun _ => (#[] : Array Value))) hS rfl
  have oth : ∀ b o, b ≠ s.heap.objs.size → s.heap.get? b = some o → ((s.heap.push { cls := .type "list", data := .seq #[] }).update s.heap.objs.size (Obj.mapSeq (fun _ => (#[] : Array Value)))).get? b = some o :=
    fun b o hb e => (Heap.get?_update_other _ _ (Ne.symm hb)).trans (Heap.get?_push_of_some _ e)
  refine wpAny_bind (wpAny_letGo ?_)
  generalize hH : (s.heap.push { cls := .type "list", data := .seq #[] }).update s.heap.objs.size (Obj.mapSeq (fun _ => (#[] : Array Value))) = h2 at *
  have hit2 : IsRt h2 it t ((items.size : Int) - 1) := hit.at fun o e => oth it o hSi.symm e
  have ht2 : IsTup h2 t items := let ⟨o, e, c⟩ := ht; ⟨o, oth t o hSt.symm e, c⟩
  have hS2 : ∃ c, h2.get? s.heap.objs.size = some { cls := .type "list", data := .seq #[] c } := ⟨_, hS₂⟩
  obtain ⟨c2, hS2⟩ := hS2
  clear hS₂ hS hH
  have hSf : s.heap.objs.size ∉ [it, t] := by simp only [List.mem_cons, List.not_mem_nil, or_false, not_or]; exact ⟨hSi, hSt⟩
  have e0 : (items.size : Int) - 1 - ((0 : Nat) : Int) = (items.size : Int) - 1 := by omega
  have key : ∀ (h : Heap) (c₁ tk : Nat), IsRt h it t ((items.size : Int) - 1) → IsTup h t items → (∀ b o, b ≠ s.heap.objs.size → s.heap.get? b = some o → h.get? b = some o) →
      h.get? s.heap.objs.size = some { cls := .type "list", data := .seq #[] c₁ } → codeAny (model prog w) A.in1 (.builtin "list.extend.loop" ⟨[.ref s.heap.objs.size, .ref it, .none], []⟩) (wants (fun r s₂ => r = Value.none ∧ Q (Value.ref s.heap.objs.size) s₂) E) { s with heap := h, toks := tk } := by
    intro h c₁ tk h1 h2' hk hS₁
    refine codeAny_extend_loopS (walks_rt (A := A.in1.in1) hh hne hn).toS hn _ hSf _ items.size 0 _ #[] c₁ rfl (Nat.zero_le _) ⟨Nat.zero_le _, by rw [e0]; exact h1, h2'⟩ hS₁ (ItemsOf.nil _) fun s' acc' c' hm hS' hacc => ?_
    rw [Moved.eq_with hm]
    refine ⟨rfl, hQ s'.heap s'.toks acc' c' (fun b o hb e => hm.heap b o (fun hmem => ?_) (hk b o (fun z => ?_) e)) hS' hacc⟩
    · rcases List.mem_cons.mp hmem with e' | hmem
      · exact absurd (Heap.lt_size e) (by rw [e']; exact Nat.lt_irrefl _)
      · exact hb (List.mem_singleton.mp hmem)
    · exact absurd (Heap.lt_size e) (by rw [z]; exact Nat.lt_irrefl _)
  unfold Builtin.List.listExtendWith
  refine wpAny_bind (wpAny_typeOf (T := "reversed") (IsRt.typeIs (s := { s with heap := h2 }) hit2) ?_)
  have h1 : Builtin.List.listSameRef (.ref s.heap.objs.size) (.ref it) = false := by simp [Builtin.List.listSameRef, hSi]
  have n1 : (Value.type "reversed" == Value.type "list") = false := by decide
  have n2 : (Value.type "reversed" == Value.type "tuple") = false := by decide
  simp only [h1, n1, n2, Bool.or_false, Bool.false_eq_true, if_false]
  refine wpAny_bind (iter_rt (s := { s with heap := h2 }) hit2 ?_)
  refine wpAny_bind (wpAny_holding (hint_rt (s := { s with heap := h2 }) hit2 ht2 hn fun bo tk => ?_))
  refine wpAny_ite_split (fun _ => ?_) (fun _ => wpAny_pure ⟨plainId_quiet PySem.F.plain_extend_loop _, key _ c2 _ hit2 ht2 oth hS2⟩)
  refine wpAny_bind (wpAny_rule ?_)
  refine wpAny_bind ?_
  show wpAny _ _ (updateSeq s.heap.objs.size (·.push .none) >>= fun _ => updateSeq s.heap.objs.size (·.pop)) _ _ _
  refine wpAny_bind (wpAny_updateSeq (s := { s with heap := h2, toks := tk }) hS2 rfl ?_)
  have hS₂ := Heap.get?_update_self (Obj.mapSeq (·.push Value.none)) hS2 rfl
  refine wpAny_updateSeq (hz := by seq_fits) hS₂ rfl ?_
  have hS₃ := Heap.get?_update_self (Obj.mapSeq (·.pop)) hS₂ rfl
  have oth3 : ∀ b o, b ≠ s.heap.objs.size → h2.get? b = some o → ((h2.update s.heap.objs.size (Obj.mapSeq (·.push Value.none))).update s.heap.objs.size (Obj.mapSeq (·.pop))).get? b = some o :=
    fun b o hb e => (Heap.get?_update_other _ _ (Ne.symm hb)).trans ((Heap.get?_update_other _ _ (Ne.symm hb)).trans e)
  exact wpAny_pure ⟨plainId_quiet PySem.F.plain_extend_loop _, key _ _ _ (hit2.at fun o e => oth3 it o hSi.symm e) (let ⟨o, e, c⟩ := ht2; ⟨o, oth3 t o hSt.symm e, c⟩) (fun b o hb e => oth3 b o hb (oth b o hb e)) hS₃⟩
end
end RT
namespace L2
open PySem PySem.Spec PyProof.Rows RT
/-- list(reversed(x)), x a tuple: a new list -/
def tListRev (K : PySem.W.Frag) (te : TE) : TE := fun σ H Q => te σ H fun v H1 => ∃ (a : Addr) (xs : List V), v = .ref a ∧ SqT K H1 a xs ∧ ∀ q, H1 q = none → Q (.ref q) (upd H1 q (.lst xs.reverse))
theorem pe_listRev {X : Cx} {e : Expr} {te : TE} {p p2 pos pos2 : Pos} (hc : X.calm = true) (hg : Gl X "list") (hm : X.mg "list" = none) (hg2 : Gl X "reversed") (hm2 : X.mg "reversed" = none) (he : PE X e te)
    (hs : starEach [e] X.env = (false, eval e X.env) :: starEach [] X.env := by rfl)
    (hs2 : starEach [.Call (.Name "reversed" p2) [e] [] pos2] X.env = (false, eval (.Call (.Name "reversed" p2) [e] [] pos2) X.env) :: starEach [] X.env := by rfl) :
    PE X (.Call (.Name "list" p) [.Call (.Name "reversed" p2) [e] [] pos2] [] pos) (tListRev X.K te) := by
  refine ⟨fun pins s σ H Q I h => ?_⟩
  refine Call_ (ld_blt I hg hm boot_list (PyProof.Rows.callWith_type1 (args_cons (Call_ (ld_blt I hg2 hm2 PyProof.Rows.boot_reversed (PyProof.Rows.callWith_type1 (args_cons (thn (he.run pins s σ H _ I h) fun u s1 ⟨v, H1, I1, r1, q1⟩ => args_nil ?_) hs) hs rfl))) hs2) hs2 rfl))
  obtain ⟨a, xs, ev, hq, q⟩ := q1
  subst ev
  obtain rfl : u = Value.ref a := r1
  obtain ⟨its, rv, p', hz⟩ := I1.tuple hq
  have hl := rv.length
  have hn63 := line63
  refine call_reversed_tup p' (fun A E Q k => len_tuple p' (by simp only [List.size_toArray] <;> omega) k) (args_nil ?_)
  have k0 : ∀ b o, s1.heap.get? b = some o → (s1.heap.push (rtObj a ((its.toArray.size : Int) - 1))).get? b = some o := fun b o e => Heap.get?_push_of_some _ e
  have I2 : Inv X pins σ H1 { s1 with heap := s1.heap.push (rtObj a ((its.toArray.size : Int) - 1)), toks := s1.toks + 1 + 1 } := I1.kept (t' := s1.toks + 1 + 1) k0
  obtain ⟨f0, f1, f2, f3, f4, f5⟩ := I1.fpOk (H' := H1) (b := s1.heap.objs.size) (Nat.le_refl _) (I1.hok.fresh (Nat.le_refl _))
  obtain ⟨ol, hol, hoc⟩ := id p'
  have hne : a ≠ s1.heap.objs.size := Nat.ne_of_lt (Heap.lt_size hol)
  have hn : its.toArray.size ≤ sizeLine := by rw [List.size_toArray, ← rv.length]; exact hz
  refine call_list_rt (s := { s1 with heap := s1.heap.push (rtObj a ((its.toArray.size : Int) - 1)), toks := s1.toks + 1 + 1 }) (I1.ok.hd hc) ⟨_, Heap.get?_push_size _ rfl, rfl, rfl⟩ ⟨ol, k0 _ _ hol, hoc⟩ hne hn fun h' tk acc c' hk hS hi => ?_
  have hk : ∀ b o, b ≠ s1.heap.objs.size → (s1.heap.push (rtObj a ((its.toArray.size : Int) - 1))).get? b = some o → h'.get? b = some o := hk
  have hS : h'.get? (s1.heap.push (rtObj a ((its.toArray.size : Int) - 1))).objs.size = some { cls := .type "list", dict := none, data := .seq acc c', slots := #[] } := hS
  show EP X pins σ Q (Value.ref (s1.heap.push (rtObj a ((its.toArray.size : Int) - 1))).objs.size) { s1 with heap := h', toks := tk }
  generalize s1.heap.push (rtObj a ((its.toArray.size : Int) - 1)) = h0 at *
  have hf : H1 h0.objs.size = none := I2.hok.fresh (Nat.le_refl _)
  have lt : ∀ b o, h0.get? b = some o → b ≠ h0.objs.size := fun b o e => Nat.ne_of_lt (Heap.lt_size e)
  generalize h0.objs.size = S at *
  have nit : ∀ b u, H1 b = some u → b ≠ s1.heap.objs.size := fun b u e z => by rw [z, f0] at e; cases e
  have I3 : Inv X pins σ (upd H1 S (.lst xs.reverse)) { s1 with heap := h', toks := tk } := by
    show Inv X pins σ _ { ({ s1 with heap := h0, toks := s1.toks + 1 + 1 } : Shared) with heap := h', gens := s1.gens, drawn := s1.drawn, toks := tk }
    refine I2.step (g' := s1.gens) (d' := s1.drawn) (t' := tk) (ch := [s1.heap.objs.size]) (fun b hb => ?_) (fun b o _ _ hc e _ => hk b o (fun z => hc (by simp [z])) e) (fun b o _ _ hc e _ => ⟨o.slots, hk b o (fun z => hc (by simp [z])) e⟩) (fun b o _ e n => by rw [upd_ne (lt b o e)]; exact n)
      (fun b o hc e => ⟨o, hk b o (fun z => hc (by simp [z])) e⟩) (fun b ys e => by rw [upd_ne (ne_of_none e hf)]; exact e) (fun b o u e => by rw [upd_ne (ne_of_none e hf)]; exact e) (fun b ps e => ⟨#[], by rw [upd_ne (ne_of_none e hf), e]; simp⟩) (fun m hm => ?_) (fun b u e => ?_) I2.bare
    · have e : b = s1.heap.objs.size := by simpa using hb
      subst e
      exact ⟨f3, f1, f4, f5⟩
    · obtain ⟨o, es, ep, ho, r⟩ := hm
      exact ⟨o, es, ep, hk _ o (Ne.symm f1) ho, r⟩
    · by_cases hb : b = S
      · subst hb
        rw [upd_same] at e
        cases e
        exact ⟨by rw [List.length_reverse]; exact hz, acc.toList, c', vals_rev rv hi, by rw [Array.toArray_toList]; exact hS⟩
      · rw [upd_ne hb] at e
        refine (I2.hok b u e).stay (fun c v hc q => hk c v ?_ q) (fun c q => by rw [upd_ne (ne_of_none q hf)]; exact q) fun c ys q => by rw [upd_ne (ne_of_none q hf)]; exact q
        rcases hc with z | z
        · rw [z]; exact nit b u e
        · exact nit c _ z
  exact ⟨.ref S, upd H1 S (.lst xs.reverse), I3, rfl, q _ hf⟩
end L2


/-! DT: readings over data: texts, truth of lists, in, lists that stay mutable, unpacking of lists. -/
namespace L2
open PySem PySem.Spec PyProof.Rows
/-- truth of a value, with a mark -/
@[irreducible] def tTru (K : PySem.W.Frag) (ta : TE) : TT := fun σ H Q => ta σ H fun x H' => ∃ k, TruV K x H' k ∧ Q k H'
theorem pt_tru {X : Cx} {a : Expr} {ta : TE} (ha : PE X a ta) (he : ∀ whole, isTrue a X.env whole = (do let v ← whole; standAt a.pos; holding [v] (truthy v)) := by intro _; rfl) : PT X a (tTru X.K ta) := by
  unfold tTru
  exact pt_truth ha he
/-- a block's list that stays mutable -/
@[irreducible] def tLcM (wi : TI) (g : TG) (tt : TT) (te : TE) (vs : List Nat) : TE := tLc wi g tt te vs
theorem PS.cast {X : Cx} {e : Stmt} {t t' : TS} (h : PS X e t) (q : t = t') : PS X e t' := q ▸ h
theorem tLcM_eq {wi : TI} {g : TG} {tt : TT} {te : TE} {vs : List Nat} : tLc wi g tt te vs = tLcM wi g tt te vs := by
  unfold tLcM
  rfl
theorem ps_setLcM {X : Cx} {s : Stmt} {wi : TI} {g : TG} {tt : TT} {te : TE} {vs : List Nat} {i : Nat} (h : PS X s (tAsg (tLc wi g tt te vs) (gName i))) : PS X s (tAsg (tLcM wi g tt te vs) (gName i)) := by
  unfold tLcM
  exact h
end L2
namespace DL
open PySem L2 Evl
section
variable {K : Kx} {s : Sd} {Q : D → Sd → Prop} {ta tb te tl : TE} {t u tt : TT} {d : D} {v : V} {P : Pd} {ts tr tz : TS} {g : TG} {tas : TA}
theorem es_nextE (h : P.nx s) : Es K Ends.nx s P := es_next h
/-! ### truth -/
def Tru1 (M : MM) (x : D) (k : Bool → Prop) : Prop :=
  (∃ xs, (seqL x = some xs ∨ ∃ a, x = .adr a ∧ M a = some (.lst xs)) ∧ k (!xs.isEmpty)) ∨ (x = .non ∧ k false) ∨ (∃ b, x = .bl b ∧ k b) ∨ (∃ i, x = .int i ∧ k (i != 0)) ∨ (∃ z : Str, x = .str z ∧ z.length ≤ sizeLine ∧ k ((z.length : Int) != 0))
theorem RpL.isEmpty {K : PySem.W.Frag} {S : Hp} {xs : List D} {vs : List V} (r : RpL K S xs vs) : vs.isEmpty = xs.isEmpty := by
  cases xs with
  | nil => rw [r.nil_of]; rfl
  | cons x xs =>
    obtain ⟨v, us, rfl, _⟩ := r.cons_of
    rfl
theorem w_tru {Q : Bool → Sd → Prop} (h : Ed K te s fun x s1 => Tru1 s1.M x fun b => Q b s1) : Et K (tTru K.K te) s Q := by
  unfold tTru
  intro S H σ A r R k
  refine h S H σ A r _ fun x s1 v S1 H1 h1 e1 A1 r1 rx => ?_
  rcases h1 with ⟨xs, hx, q⟩ | ⟨rfl, q⟩ | ⟨b, rfl, q⟩ | ⟨i, rfl, q⟩ | ⟨z, rfl, hz, q⟩
  · rcases hx with hx | ⟨a, rfl, hm⟩
    · obtain ⟨a, vs, rfl, hl, rl⟩ := rx.seqL_of hx
      refine ⟨!vs.isEmpty, ?_, k _ s1 S1 H1 (by rw [rl.isEmpty]; exact q) e1 A1 r1⟩
      rcases hl with hl | hl
      · exact .inl ⟨vs, ex_l A1.ex hl, rfl⟩
      · exact .inr (.inl ⟨vs, ex_t A1.ex hl, rfl⟩)
    · obtain rfl := rx.oth_of
      obtain ⟨_, u, hu, ro⟩ := A1.mm a _ hm
      obtain ⟨vs, rfl, rl⟩ := ro.lst_of
      exact ⟨!vs.isEmpty, .inl ⟨vs, SqL.of hu, rfl⟩, k _ s1 S1 H1 (by rw [rl.isEmpty]; exact q) e1 A1 r1⟩
  · rw [rx.non_of]
    exact ⟨false, rfl, k _ s1 S1 H1 q e1 A1 r1⟩
  · rw [rx.bl_of]
    exact ⟨b, rfl, k _ s1 S1 H1 q e1 A1 r1⟩
  · rw [rx.int_of]
    exact ⟨_, rfl, k _ s1 S1 H1 q e1 A1 r1⟩
  · rw [rx.str_of]
    exact ⟨_, ⟨hz, rfl⟩, k _ s1 S1 H1 q e1 A1 r1⟩
theorem tr_lst {M : MM} {xs : List D} {k : Bool → Prop} (h : k (!xs.isEmpty)) : Tru1 M (.lst xs) k := .inl ⟨xs, .inl rfl, h⟩
theorem tr_frz {M : MM} {xs : List D} {k : Bool → Prop} (h : k (!xs.isEmpty)) : Tru1 M (.frz xs) k := .inl ⟨xs, .inl rfl, h⟩
theorem tr_tup {M : MM} {xs : List D} {k : Bool → Prop} (h : k (!xs.isEmpty)) : Tru1 M (.tup xs) k := .inl ⟨xs, .inl rfl, h⟩
theorem tr_adr {M : MM} {a : Addr} {xs : List D} {k : Bool → Prop} (e : M a = some (.lst xs)) (h : k (!xs.isEmpty)) : Tru1 M (.adr a) k := .inl ⟨xs, .inr ⟨a, rfl, e⟩, h⟩
theorem tr_bl {M : MM} {b : Bool} {k : Bool → Prop} (h : k b) : Tru1 M (.bl b) k := .inr (.inr (.inl ⟨b, rfl, h⟩))
theorem tr_non {M : MM} {k : Bool → Prop} (h : k false) : Tru1 M .non k := .inr (.inl ⟨rfl, h⟩)
theorem tr_int {M : MM} {i : Int} {k : Bool → Prop} (h : k (i != 0)) : Tru1 M (.int i) k := .inr (.inr (.inr (.inl ⟨i, rfl, h⟩)))
/-! ### scalars in a list -/
def vOf : D → V
  | .bl b => .bl b
  | .int i => .int i
  | .str x => .str x
  | _ => .non
def isS : D → Bool
  | .non => true
  | .bl _ => true
  | .int _ => true
  | .str _ => true
  | _ => false
def eqS (x y : D) : Bool := eqV (vOf x) (vOf y)
theorem Rp.vOf_of {K : PySem.W.Frag} {S : Hp} {d : D} {v : V} (h : isS d = true) (r : Rp K S d v) : v = vOf d ∧ flatV v = true := by
  cases d with
  | non => rw [r.non_of]; exact ⟨rfl, rfl⟩
  | bl b => rw [r.bl_of]; exact ⟨rfl, rfl⟩
  | int i => rw [r.int_of]; exact ⟨rfl, rfl⟩
  | str x => rw [r.str_of]; exact ⟨rfl, rfl⟩
  | lst xs => cases h
  | frz xs => cases h
  | tup xs => cases h
  | oth u => cases h
theorem RpL.vOf_of {K : PySem.W.Frag} {S : Hp} : ∀ {ds : List D} {vs : List V}, (∀ d ∈ ds, isS d = true) → RpL K S ds vs → vs = ds.map vOf ∧ vs.all flatV = true
  | [], vs, _, r => by rw [r.nil_of]; exact ⟨rfl, rfl⟩
  | d :: ds, vs, h, r => by
    obtain ⟨v, us, rfl, r1, r2⟩ := r.cons_of
    obtain ⟨h1, h2⟩ := r1.vOf_of (h d List.mem_cons_self)
    obtain ⟨h3, h4⟩ := RpL.vOf_of (fun x hx => h x (List.mem_cons_of_mem _ hx)) r2
    exact ⟨by rw [h1, h3]; rfl, by rw [List.all_cons, h2, h4]; rfl⟩
theorem w_inS (h : Ed K ta s fun x s1 => Ed K tb s1 fun y s2 => L1 s2.M y fun ys => Sc (isS x = true ∧ ∀ z ∈ ys, isS z = true) (Q (.bl (ys.any fun z => eqS z x)) s2)) : Ed K (tOp (rIn K.K false) ta tb) s Q := fun S H σ A r R k =>
  h S H σ A r _ fun x s1 v S1 H1 h1 e1 A1 r1 rx => h1 S1 H1 σ A1 r1 _ fun y s2 w S2 H2 h2 e2 A2 r2 ry => by
    obtain ⟨ys, hy, ⟨hs1, hs2⟩, q⟩ := h2
    have go : ∃ a vs, w = .ref a ∧ (SqL K.K H2 a vs ∨ SqT K.K H2 a vs) ∧ RpL K.K S2 ys vs := by
      rcases hy with hy | ⟨a, rfl, hm⟩
      · obtain ⟨a, vs, rfl, hl, rl⟩ := ry.seqL_of hy
        exact ⟨a, vs, rfl, hl.elim (fun z => .inl (ex_l A2.ex z)) fun z => .inr (ex_t A2.ex z), rl⟩
      · obtain rfl := ry.oth_of
        obtain ⟨_, u, hu, ro⟩ := A2.mm a _ hm
        obtain ⟨vs, rfl, rl⟩ := ro.lst_of
        exact ⟨a, vs, rfl, .inl (SqL.of hu), rl⟩
    obtain ⟨a, vs, rfl, hl, rl⟩ := go
    obtain ⟨g1, g2⟩ := rx.vOf_of hs1
    obtain ⟨g3, g4⟩ := rl.vOf_of hs2
    refine ⟨a, vs, rfl, hl, g2, g4, ?_⟩
    rw [if_neg Bool.false_ne_true]
    have e : inV v vs = ys.any fun z => eqS z x := by
      unfold inV eqS
      rw [g1, g3, List.any_map]
      rfl
    rw [e]
    exact k _ s2 _ S2 H2 q (e1.trans e2) A2 r2 Rp.bl
theorem w_ninS (h : Ed K ta s fun x s1 => Ed K tb s1 fun y s2 => L1 s2.M y fun ys => Sc (isS x = true ∧ ∀ z ∈ ys, isS z = true) (Q (.bl (!ys.any fun z => eqS z x)) s2)) : Ed K (tOp (rIn K.K true) ta tb) s Q := fun S H σ A r R k =>
  h S H σ A r _ fun x s1 v S1 H1 h1 e1 A1 r1 rx => h1 S1 H1 σ A1 r1 _ fun y s2 w S2 H2 h2 e2 A2 r2 ry => by
    obtain ⟨ys, hy, ⟨hs1, hs2⟩, q⟩ := h2
    have go : ∃ a vs, w = .ref a ∧ (SqL K.K H2 a vs ∨ SqT K.K H2 a vs) ∧ RpL K.K S2 ys vs := by
      rcases hy with hy | ⟨a, rfl, hm⟩
      · obtain ⟨a, vs, rfl, hl, rl⟩ := ry.seqL_of hy
        exact ⟨a, vs, rfl, hl.elim (fun z => .inl (ex_l A2.ex z)) fun z => .inr (ex_t A2.ex z), rl⟩
      · obtain rfl := ry.oth_of
        obtain ⟨_, u, hu, ro⟩ := A2.mm a _ hm
        obtain ⟨vs, rfl, rl⟩ := ro.lst_of
        exact ⟨a, vs, rfl, .inl (SqL.of hu), rl⟩
    obtain ⟨a, vs, rfl, hl, rl⟩ := go
    obtain ⟨g1, g2⟩ := rx.vOf_of hs1
    obtain ⟨g3, g4⟩ := rl.vOf_of hs2
    refine ⟨a, vs, rfl, hl, g2, g4, ?_⟩
    rw [if_pos rfl]
    have e : inV v vs = ys.any fun z => eqS z x := by
      unfold inV eqS
      rw [g1, g3, List.any_map]
      rfl
    rw [e]
    exact k _ s2 _ S2 H2 q (e1.trans e2) A2 r2 Rp.bl
/-! ### texts -/
abbrev sgn (c : Nat) : D := .str ⟨#[c]⟩
def signsD (x : Str) : List D := x.cps.toList.map sgn
theorem itOk_str {S : Hp} {x : Str} : ItOk K S (signsD x) (Its x) := ⟨fun i d S2 H2 M2 hi e2 A2 => by
    unfold signsD at hi
    rw [List.getElem?_map] at hi
    obtain ⟨c, hc, rfl⟩ := Option.map_eq_some_iff.mp hi
    have hlt : i < x.cps.toList.length := (List.getElem?_eq_some_iff.mp hc).1
    refine ⟨by show i < x.cps.size; simpa using hlt, fun y H3 ⟨e3, c', hc', hy⟩ => ?_⟩
    subst e3 hy
    have e : c' = c := by
      rw [Array.getElem?_toList] at hc
      rw [hc] at hc'
      exact (Option.some.inj hc').symm
    subst e
    exact ⟨S2, Ex.refl _, A2, Rp.str⟩, fun S2 H2 M2 e2 A2 => by
    unfold signsD
    show x.cps.size ≤ _
    simp⟩
theorem w_iS {Q : List D → Sd → Prop} (h : Ed K te s fun d s' => S1 d fun x => Q (signsD x) s') : Ei K (iStr te) s Q := fun S H σ A r R k =>
  h S H σ A r _ fun d s' v S' H' q e A' r' rv => by
    obtain ⟨x, rfl, q⟩ := q
    exact ⟨x, rv.str_of, k _ s' _ S' H' q e A' r' itOk_str⟩
theorem w_ordc (h : Ed K ta s fun x s1 => S1 x fun z => Sc (z.length = 1) (Q (.int (z.cps.getD 0 0 : Nat)) s1)) : Ed K (tCB (fun xs H Q => ∃ x, xs = [.str x] ∧ x.length = 1 ∧ Q (.int (x.cps.getD 0 0 : Nat)) H) (tCons ta tNil)) s Q := fun S H σ A r R k =>
  h S H σ A r _ fun x s1 v S1 H1 h1 e1 A1 r1 rx => by
    obtain ⟨z, rfl, hz, q⟩ := h1
    exact ⟨z, by rw [rx.str_of], hz, k _ s1 _ S1 H1 q e1 A1 r1 Rp.int⟩
theorem w_abs (h : Ed K ta s fun x s1 => I1 x fun i => Q (.int (if i < 0 then -i else i)) s1) : Ed K (tCB (fun xs H Q => ∃ i, xs = [.int i] ∧ Q (.int (if i < 0 then -i else i)) H) (tCons ta tNil)) s Q := fun S H σ A r R k =>
  h S H σ A r _ fun x s1 v S1 H1 h1 e1 A1 r1 rx => by
    obtain ⟨z, rfl, q⟩ := h1
    exact ⟨z, by rw [rx.int_of], k _ s1 _ S1 H1 q e1 A1 r1 Rp.int⟩
theorem w_lenS (h : Ed K ta s fun x s1 => S1 x fun z => Sc (z.length ≤ sizeLine) (Q (.int (z.length : Nat)) s1)) : Ed K (tCB (fun xs H Q => ∃ z, xs = [.str z] ∧ z.length ≤ sizeLine ∧ Q (.int z.length) H) (tCons ta tNil)) s Q := fun S H σ A r R k =>
  h S H σ A r _ fun x s1 v S1 H1 h1 e1 A1 r1 rx => by
    obtain ⟨z, rfl, hz, q⟩ := h1
    exact ⟨z, by rw [rx.str_of], hz, k _ s1 _ S1 H1 q e1 A1 r1 Rp.int⟩
/-- a sign of a text -/
def AtS (z : Str) (i : Int) (k : Nat → Prop) : Prop := ∃ c, (z.length ≤ sizeLine ∧ atI z.cps.toList i = some c) ∧ k c
theorem w_ixS (h : Ed K ta s fun x s1 => Ed K tb s1 fun y s2 => S1 x fun z => I1 y fun i => AtS z i fun c => Q (sgn c) s2) : Ed K (tOp rIxS ta tb) s Q := fun S H σ A r R k =>
  h S H σ A r _ fun x s1 v S1 H1 h1 e1 A1 r1 rx => h1 S1 H1 σ A1 r1 _ fun y s2 w S2 H2 h2 e2 A2 r2 ry => by
    obtain ⟨z, rfl, i, rfl, c, ⟨hz, hc⟩, q⟩ := h2
    exact ⟨z, i, c, (rx.mono e2).str_of, ry.int_of, hz, hc, k _ s2 _ S2 H2 q (e1.trans e2) A2 r2 Rp.str⟩
/-- sep.join(a list of texts) -/
def Strs (M : MM) (x : D) (k : List Str → Prop) : Prop := ∃ ys : List Str, (seqL x = some (ys.map .str) ∨ ∃ a, x = .adr a ∧ M a = some (.lst (ys.map .str))) ∧ k ys
theorem RpL.strs {K : PySem.W.Frag} {S : Hp} : ∀ {ys : List Str} {vs : List V}, RpL K S (ys.map .str) vs → vs = ys.map .str
  | [], vs, r => by rw [r.nil_of]; rfl
  | y :: ys, vs, r => by
    obtain ⟨v, us, rfl, r1, r2⟩ := r.cons_of
    rw [r1.str_of, RpL.strs r2]
    rfl
theorem w_join (h : Ed K ta s fun x s1 => S1 x fun a => Ed K tb s1 fun y s2 => Strs s2.M y fun ys => Sc ((ys.map (·.length)).sum + ys.length * a.length ≤ 16777216) (Q (.str (Txt.join a ys)) s2)) :
    Ed K (tM1 (fun x xs H Q => ∃ a p, ∃ ys : List Str, x = .str a ∧ xs = [.ref p] ∧ (SqL K.K H p (ys.map V.str) ∨ SqT K.K H p (ys.map V.str)) ∧ (ys.map (·.length)).sum + ys.length * a.length ≤ 16777216 ∧ Q (.str (Txt.join a ys)) H) ta tb) s Q := fun S H σ A r R k =>
  h S H σ A r _ fun x s1 v S1 H1 h1 e1 A1 r1 rx => by
    obtain ⟨a, rfl, h1⟩ := h1
    refine ⟨⟨a, rx.str_of⟩, h1 S1 H1 σ A1 r1 _ fun y s2 w S2 H2 h2 e2 A2 r2 ry => ?_⟩
    obtain ⟨ys, hy, hz, q⟩ := h2
    have go : ∃ p, w = .ref p ∧ (SqL K.K H2 p (ys.map V.str) ∨ SqT K.K H2 p (ys.map V.str)) := by
      rcases hy with hy | ⟨a, rfl, hm⟩
      · obtain ⟨a, vs, rfl, hl, rl⟩ := ry.seqL_of hy
        rw [rl.strs] at hl
        exact ⟨a, rfl, hl.elim (fun z => .inl (ex_l A2.ex z)) fun z => .inr (ex_t A2.ex z)⟩
      · obtain rfl := ry.oth_of
        obtain ⟨_, u, hu, ro⟩ := A2.mm a _ hm
        obtain ⟨vs, rfl, rl⟩ := ro.lst_of
        rw [rl.strs] at hu
        exact ⟨a, rfl, .inl (SqL.of hu)⟩
    obtain ⟨p, rfl, hp⟩ := go
    exact ⟨a, p, ys, (rx.mono e2).str_of, rfl, hp, hz, k _ s2 _ S2 H2 q (e1.trans e2) A2 r2 Rp.str⟩
/-! ### lists -/
theorem w_tupOf (h : Ed K ta s fun x s1 => LL1 s1.M x fun xs => Q (.tup xs) s1) : Ed K (tCB (fun xs H Q => ∃ p ys, xs = [.ref p] ∧ ((SqL K.K H p ys ∧ ∀ l, H l = none → Q (.ref l) (upd H l (.tup ys))) ∨ (SqT K.K H p ys ∧ Q (.ref p) H))) (tCons ta tNil)) s Q := fun S H σ A r R k =>
  h S H σ A r _ fun x s1 v S1 H1 h1 e1 A1 r1 rx => by
    obtain ⟨xs, hx, q⟩ := h1
    have go : ∃ a vs, v = .ref a ∧ SqL K.K H1 a vs ∧ RpL K.K S1 xs vs := by
      rcases hx with hx | ⟨a, rfl, hm⟩
      · obtain ⟨a, vs, rfl, hl, rl⟩ := rx.asL_of hx
        exact ⟨a, vs, rfl, ex_l A1.ex hl, rl⟩
      · obtain rfl := rx.oth_of
        obtain ⟨_, u, hu, ro⟩ := A1.mm a _ hm
        obtain ⟨vs, rfl, rl⟩ := ro.lst_of
        exact ⟨a, vs, rfl, SqL.of hu, rl⟩
    obtain ⟨a, vs, rfl, hl, rl⟩ := go
    refine ⟨a, vs, rfl, .inl ⟨hl, fun p hp => ?_⟩⟩
    obtain ⟨A4, e4⟩ := A1.new hp (.tup vs)
    exact k _ s1 _ _ _ q (e1.trans e4) A4 (r1.mono e4) (Rp.tup (SqT.of upd_same) (RpL.mono e4 _ _ rl))
theorem w_listRev (h : Ed K ta s fun x s1 => T1 x fun xs => Q (.lst xs.reverse) s1) : Ed K (tListRev K.K ta) s Q := fun S H σ A r R k =>
  h S H σ A r _ fun x s1 v S1 H1 h1 e1 A1 r1 rx => by
    obtain ⟨xs, rfl, q⟩ := h1
    obtain ⟨a, vs, rfl, ht, rl⟩ := rx.tup_of
    refine ⟨a, vs, rfl, ex_t A1.ex ht, fun p hp => ?_⟩
    obtain ⟨A4, e4⟩ := A1.new hp (.lst vs.reverse)
    exact k _ s1 _ _ _ q (e1.trans e4) A4 (r1.mono e4) (Rp.lst upd_same (RpL.mono e4 _ _ rl.reverse))
/-- a, b, .. = a list -/
theorem w_unl {n : Nat} {gs : TGs} {Q : Sd → Prop} (h : F1 d fun ds => Sc (ds.length = n) (Egs K gs ds s Q)) : Eg K (gUnl K.K n gs) d s Q := fun S H σ v A r rv R k => by
  obtain ⟨ds, hd, hn, h⟩ := h
  obtain ⟨a, vs, rfl, hl, rl⟩ := rv.asL_of hd
  exact ⟨a, vs, rfl, ex_l A.ex hl, by rw [← rl.length]; exact hn, h S H σ vs A r rl R k⟩
/-! ### blocks whose list stays mutable -/
def Lcm (K : Kx) (g : TG) (tt : TT) (te : TE) (ρ ρw : List (Option D)) (Q : D → Sd → Prop) (p : Addr) : List D → List D → MM → Prop
  | [], acc, M => M p = some (.lst acc) ∧ Q (.adr p) ⟨ρ, M⟩
  | x :: xs, acc, M => M p = some (.lst acc) ∧ Eg K g x ⟨ρw, M⟩ fun s2 => Et K tt s2 fun b s3 =>
      (b = true → Ed K te s3 fun y s4 => s4.M p = some (.lst acc) ∧ acc.length < sizeLine ∧ Lcm K g tt te ρ ρw Q p xs (acc ++ [y]) (updM s4.M p (.lst (acc ++ [y])))) ∧ (b = false → s3.M p = some (.lst acc) ∧ Lcm K g tt te ρ ρw Q p xs acc s3.M)
theorem ed_lcm {wi : TI} {vs : List Nat} (hw : Wp g vs) (h : Ei K wi s fun ds s' => ∀ p, s'.M p = none → Lcm K g tt te s'.ρ (wipeD s'.ρ vs) Q p ds [] (updM s'.M p (.lst []))) : Ed K (tLcM wi g tt te vs) s Q := by
  unfold tLcM
  exact fun S H σ A r R k =>
   h S H σ A r _ fun ds s' J S' H' q e A' r' hJ => by
    intro p hp
    have q := q p (A'.free hp)
    have A0 : At K S' (upd H' p (.lst [])) (updM s'.M p (.lst [])) := A'.newM hp (o := .lst []) (m := .lst []) (show RpL K.K S' [] [] from RpL.nil)
    refine ⟨fun i m H => m = ds.length - i ∧ i ≤ ds.length ∧ ∃ acc M1 S2, Lcm K g tt te s'.ρ (wipeD s'.ρ vs) Q p (ds.drop i) acc M1 ∧ Ex S' S2 ∧ At K S2 H M1, ⟨ds.length, rfl, Nat.zero_le _, [], _, S', by rw [List.drop_zero]; exact q, Ex.refl _, A0⟩, ?_⟩
    rintro i m H1 ⟨rfl, hi, acc, M1, S1, hl, e1, A1⟩
    by_cases hlt : i < ds.length
    · rw [List.drop_eq_getElem_cons hlt] at hl
      obtain ⟨hm, hl⟩ := hl
      obtain ⟨g1, g2⟩ := hJ.go i _ S1 H1 _ (List.getElem?_eq_getElem hlt) e1 A1
      refine .inr ⟨g1, fun H => ∃ acc M1 S2, Lcm K g tt te s'.ρ (wipeD s'.ρ vs) Q p (ds.drop (i + 1)) acc M1 ∧ Ex S' S2 ∧ At K S2 H M1, fun H' p' => ⟨ds.length - (i + 1), by omega, rfl, hlt, p'⟩, fun x H2 y => ?_⟩
      obtain ⟨S2, e2, A2, rx⟩ := g2 x H2 y
      refine hw x σ _ H2 _ wipe_wipe (hl S2 H2 _ x A2 ((r'.mono (e1.trans e2)).wipe vs) rx _ fun s3 S3 H3 σ3 q3 e3 A3 r3 => ?_)
      refine q3 S3 H3 σ3 A3 r3 _ fun b s4 S4 H4 q4 e4 A4 r4 => ?_
      have e' := ((e1.trans e2).trans e3).trans e4
      cases b with
      | true =>
        rw [if_pos rfl]
        refine q4.1 rfl S4 H4 σ3 A4 r4 _ fun y s5 v5 S5 H5 q5 e5 A5 r5 ry => ?_
        obtain ⟨hm5, hz, hn⟩ := q5
        obtain ⟨_, o, hu, ro⟩ := A5.mm p _ hm5
        obtain ⟨us, rfl, rl⟩ := ro.lst_of
        refine ⟨us, hu, by rw [← rl.length]; exact hz, _, _, S5, hn, e'.trans e5, ?_⟩
        exact A5.put hm5 (o := .lst (us ++ [v5])) (m := .lst (acc ++ [y])) (rl.append (RpL.cons ry RpL.nil))
      | false =>
        rw [if_neg Bool.false_ne_true]
        exact ⟨acc, s4.M, S4, (q4.2 rfl).2, e', A4⟩
    · have e2 : i = ds.length := by omega
      subst e2
      rw [List.drop_length] at hl
      obtain ⟨hm, hq⟩ := hl
      exact .inl ⟨hJ.stop S1 H1 _ e1 A1, k (.adr p) ⟨s'.ρ, M1⟩ _ S1 H1 hq (e.trans e1) A1 (r'.mono e1) Rp.oth⟩
theorem ed_lcmQ {α : Type} {wi : TI} {vs : List Nat} (f : α → D) (p : α → Bool) (gO : α → D) (hw : Wp g vs) (h : Ei K wi s fun ds s' => ∃ xs : List α, ds = xs.map f ∧ xs.length ≤ sizeLine ∧ (∀ x ∈ xs, ∀ M, (∀ a o, s'.M a = some o → M a = some o) → Eg K g (f x) ⟨wipeD s'.ρ vs, M⟩ fun s2 => Et K tt s2 fun b s3 =>
    b = p x ∧ (b = true → Ed K te s3 fun y s4 => s4.M = M ∧ y = gO x) ∧ (b = false → s3.M = M)) ∧ ∀ a, s'.M a = none → Q (.adr a) ⟨s'.ρ, updM s'.M a (.lst ((xs.filter p).map gO))⟩) : Ed K (tLcM wi g tt te vs) s Q := by
  refine ed_lcm hw ?_
  intro S H σ A r R k
  refine h S H σ A r R fun ds s' J S' H' q e A' r' hJ => k ds s' J S' H' ?_ e A' r' hJ
  obtain ⟨xs, rfl, hz, hx, q⟩ := q
  intro a hp
  have q := q a hp
  have go : ∀ (ys pre : List α), pre ++ ys = xs → Lcm K g tt te s'.ρ (wipeD s'.ρ vs) Q a (ys.map f) ((pre.filter p).map gO) (updM s'.M a (.lst ((pre.filter p).map gO))) := by
    intro ys
    induction ys with
    | nil =>
      intro pre e
      rw [List.append_nil] at e
      subst e
      exact ⟨updM_same, q⟩
    | cons x ys ih =>
      intro pre e
      refine ⟨updM_same, ?_⟩
      have hmem : x ∈ xs := by rw [← e]; simp
      have hlen : ((pre.filter p).map gO).length < sizeLine := by
        rw [List.length_map]
        have h1 := List.length_filter_le p pre
        have h2 : pre.length < xs.length := by rw [← e]; simp
        omega
      intro S1 H1 σ1 v1 A1 r1 rv1 R1 k1
      refine hx x hmem _ (fun c o ha => updM_get (mm_ne ha hp) ha) S1 H1 σ1 v1 A1 r1 rv1 R1 fun s2 S2 H2 σ2 q2 e2 A2 r2 => k1 s2 S2 H2 σ2 ?_ e2 A2 r2
      refine q2.imp fun b s3 ⟨hb0, q3, q4⟩ => ⟨fun hb => (q3 hb).imp fun y s4 q5 => ?_, fun hb => ?_⟩
      · obtain ⟨hM, rfl⟩ := q5
        refine ⟨by rw [hM]; exact updM_same, hlen, ?_⟩
        rw [hM, updM_updM]
        have := ih (pre ++ [x]) (by rw [List.append_assoc]; exact e)
        rw [List.filter_append, List.filter_cons, if_pos (by rw [← hb0]; exact hb), List.filter_nil, List.map_append] at this
        exact this
      · rw [q4 hb]
        refine ⟨updM_same, ?_⟩
        have := ih (pre ++ [x]) (by rw [List.append_assoc]; exact e)
        rw [List.filter_append, List.filter_cons, if_neg (by rw [← hb0, hb]; exact Bool.false_ne_true), List.filter_nil, List.append_nil] at this
        exact this
  exact go xs [] rfl
/-- .. without a test -/
theorem ed_lcmA {α : Type} {wi : TI} {vs : List Nat} (f : α → D) (gO : α → D) (hw : Wp g vs) (h : Ei K wi s fun ds s' => ∃ xs : List α, ds = xs.map f ∧ xs.length ≤ sizeLine ∧ (∀ x ∈ xs, ∀ M, (∀ a o, s'.M a = some o → M a = some o) → Eg K g (f x) ⟨wipeD s'.ρ vs, M⟩ fun s2 => Ed K te s2 fun y s4 => s4.M = M ∧ y = gO x) ∧ ∀ a, s'.M a = none → Q (.adr a) ⟨s'.ρ, updM s'.M a (.lst (xs.map gO))⟩) : Ed K (tLcM wi g tYes te vs) s Q := by
  refine ed_lcmQ f (fun _ => true) gO hw ?_
  intro S H σ A r R k
  refine h S H σ A r R fun ds s' J S' H' q e A' r' hJ => k ds s' J S' H' ?_ e A' r' hJ
  obtain ⟨xs, rfl, hz, hx, q⟩ := q
  refine ⟨xs, rfl, hz, fun x hm M hM => ?_, by rw [List.filter_eq_self.mpr fun _ _ => rfl]; exact q⟩
  intro S1 H1 σ1 v1 A1 r1 rv1 R1 k1
  refine hx x hm M hM S1 H1 σ1 v1 A1 r1 rv1 R1 fun s2 S2 H2 σ2 q2 e2 A2 r2 => k1 s2 S2 H2 σ2 ?_ e2 A2 r2
  exact et_yes ⟨rfl, fun _ => q2, fun z => by cases z⟩
/-- a < b < c of ints -/
theorem w_chain {tc : TE} {f f' : Int → Int → Bool} (h : Ed K ta s fun x s1 => Ed K tb s1 fun y s2 => I2 x y fun i j => Br (f i j) (Ed K tc s2 fun z s3 => I1 z fun c => Q (.bl (f' j c)) s3) (Q (.bl false) s2)) :
    Ed K (tChain (rI0 fun i j => .bl (f i j)) (rI0 fun i j => .bl (f' i j)) ta tb tc) s Q := fun S H σ A r R k =>
  h S H σ A r _ fun x s1 v S1 H1 h1 e1 A1 r1 rx => h1 S1 H1 σ A1 r1 _ fun y s2 w S2 H2 h2 e2 A2 r2 ry => by
    obtain ⟨i, j, rfl, rfl, q⟩ := h2
    refine ⟨i, j, (rx.mono e2).int_of, ry.int_of, f i j, rfl, ?_⟩
    cases hf : f i j with
    | true =>
      rw [if_pos rfl]
      refine q.1 hf S2 H2 σ A2 r2 _ fun z s3 w3 S3 H3 h3 e3 A3 r3 rz => ?_
      obtain ⟨c, rfl, q⟩ := h3
      exact ⟨j, c, ry.int_of, rz.int_of, k _ s3 _ S3 H3 q ((e1.trans e2).trans e3) A3 r3 Rp.bl⟩
    | false =>
      rw [if_neg Bool.false_ne_true]
      exact k _ s2 _ S2 H2 (q.2 hf) (e1.trans e2) A2 r2 Rp.bl
end
end DL


/-! Vl: values of the program (integers and texts), their keys, rows, and their order. -/
namespace DL
open PySem L2 Evl
inductive Vl where
  | i (n : Int)
  | s (x : Str)
deriving DecidableEq
def Vl.d : Vl → D
  | .i n => .int n
  | .s x => .str x
def Vl.key : Vl → D
  | .i n => .tup [.int 0, .int n, .str ""]
  | .s x => .tup [.int 1, .int 0, .str x]
def Vl.lt : Vl → Vl → Bool
  | .i a, .i b => decide (a < b)
  | .i _, .s _ => true
  | .s _, .i _ => false
  | .s x, .s y => decide (x.cps.toList < y.cps.toList)
def Vl.ok : Vl → Prop
  | .i _ => True
  | .s x => PySem.PyData.strOk x = true
def keyR (r : List Vl) : D := .lst (r.map Vl.key)
def ltR : List Vl → List Vl → Bool
  | [], [] => false
  | [], _ :: _ => true
  | _ :: _, [] => false
  | u :: r, v :: r' => if u = v then ltR r r' else u.lt v
theorem str_eq_cps {x y : Str} : (x.cps.toList = y.cps.toList) ↔ x = y := ⟨fun h => PySem.W.str_of_cps h, fun h => by rw [h]⟩
theorem eqv_int {a b : Int} : PyData.eqv (.int a) (.int b) = decide (a = b) := by
  rw [PyData.eqv]
  by_cases h : a = b <;> simp [h]
theorem eqv_str {a b : Str} : PyData.eqv (.str a) (.str b) = decide (a = b) := by
  rw [PyData.eqv]
  by_cases h : a = b <;> simp [h]
theorem key_eqv (u v : Vl) : PyData.eqv (toP u.key) (toP v.key) = decide (u = v) := by
  cases u <;> cases v <;> simp only [Vl.key, toP, toPL, PyData.eqv, PyData.eqvAll, Vl.i.injEq, Vl.s.injEq, reduceCtorEq] <;> (rw [Bool.eq_iff_iff]; simp)
theorem lt_cons {x y : PyData} {xs ys : List PyData} (h : PySem.W.alike x y = true) : PyProof.Rows.lexLt PyProof.Rows.itemOrd (PySem.W.keyToksAll (x :: xs)) (PySem.W.keyToksAll (y :: ys)) = if PyData.eqv x y = true then PyProof.Rows.lexLt PyProof.Rows.itemOrd (PySem.W.keyToksAll xs) (PySem.W.keyToksAll ys) else PySem.W.dataLt x y := by
  cases e : PyData.eqv x y with
  | true => rw [if_pos rfl]; exact PySem.W.dataLt_all_yes h e
  | false => rw [if_neg Bool.false_ne_true]; exact PySem.W.dataLt_all_no h e
theorem lt_nil : PyProof.Rows.lexLt PyProof.Rows.itemOrd (PySem.W.keyToksAll []) (PySem.W.keyToksAll []) = false := by decide
theorem key_alike (u v : Vl) : PySem.W.alike (toP u.key) (toP v.key) = true := by
  cases u <;> cases v <;> simp [Vl.key, toP, toPL, PySem.W.alike, PySem.W.alikeAll]
theorem key_lt (u v : Vl) : PySem.W.dataLt (toP u.key) (toP v.key) = u.lt v := by
  have a1 : ∀ a b : Int, PySem.W.alike (.int a) (.int b) = true := fun _ _ => by simp [PySem.W.alike]
  have a2 : ∀ a b : Str, PySem.W.alike (.str a) (.str b) = true := fun _ _ => by simp [PySem.W.alike]
  cases u with
  | i a =>
    cases v with
    | i b =>
      simp only [Vl.key, toP, toPL, Vl.lt]
      rw [PySem.W.dataLt_tuple, lt_cons (a1 _ _), if_pos (by rw [eqv_int]; rfl), lt_cons (a1 _ _), lt_cons (a2 _ _), lt_nil, PySem.W.dataLt_int, eqv_int]
      by_cases h : a = b
      · subst h; simp [eqv_str]
      · simp [h]
    | s y =>
      simp only [Vl.key, toP, toPL, Vl.lt]
      rw [PySem.W.dataLt_tuple, lt_cons (a1 _ _), if_neg (by rw [eqv_int]; decide), PySem.W.dataLt_int]
      rfl
  | s x =>
    cases v with
    | i b =>
      simp only [Vl.key, toP, toPL, Vl.lt]
      rw [PySem.W.dataLt_tuple, lt_cons (a1 _ _), if_neg (by rw [eqv_int]; decide), PySem.W.dataLt_int]
      rfl
    | s y =>
      simp only [Vl.key, toP, toPL, Vl.lt]
      rw [PySem.W.dataLt_tuple, lt_cons (a1 _ _), if_pos (by rw [eqv_int]; rfl), lt_cons (a1 _ _), if_pos (by rw [eqv_int]; rfl), lt_cons (a2 _ _), lt_nil, PySem.W.dataLt_str, eqv_str]
      by_cases h : x = y
      · subst h; simp
      · simp [h]
theorem toPL_map (f : Vl → D) : ∀ r : List Vl, toPL (r.map f) = r.map fun v => toP (f v)
  | [] => rfl
  | v :: r => by rw [List.map_cons, toPL, toPL_map f r, List.map_cons]
theorem keyR_alikeAll : ∀ r r' : List Vl, PySem.W.alikeAll (r.map fun v => toP v.key) (r'.map fun v => toP v.key) = true
  | [], r' => by cases r' <;> simp [PySem.W.alikeAll]
  | u :: r, [] => by simp [PySem.W.alikeAll]
  | u :: r, v :: r' => by
    simp only [List.map_cons, PySem.W.alikeAll, key_alike, keyR_alikeAll r r', Bool.and_self]
theorem keyR_alike (r r' : List Vl) : PySem.W.alike (toP (keyR r)) (toP (keyR r')) = true := by
  unfold keyR
  rw [toP, toP, PySem.W.alike, toPL_map, toPL_map]
  exact keyR_alikeAll r r'
theorem keyR_lt : ∀ r r' : List Vl, ltD (keyR r) (keyR r') = ltR r r' := by
  intro r r'
  unfold ltD keyR
  rw [toP, toP, PySem.W.dataLt_list, toPL_map, toPL_map]
  induction r generalizing r' with
  | nil =>
    cases r' with
    | nil => exact lt_nil
    | cons v r' =>
      rw [List.map_cons, List.map_nil, PySem.W.keyToksAll, PySem.W.toks_all_cons]
      rw [ltR]
      rfl
  | cons u r ih =>
    cases r' with
    | nil =>
      rw [List.map_cons, List.map_nil, PySem.W.keyToksAll, PySem.W.toks_all_cons]
      rw [ltR]
      rfl
    | cons v r' =>
      rw [List.map_cons, List.map_cons, lt_cons (key_alike u v), ih r', key_eqv, key_lt, ltR]
      simp
theorem Vl.cmp {v : Vl} (h : v.ok) (n : Nat) : cmpD n v.d := by
  cases v with
  | i a => cases n <;> exact True.intro
  | s x => cases n <;> exact h
theorem Vl.key_cmp {v : Vl} (h : v.ok) (n : Nat) : cmpD (n + 1) v.key := by
  cases v with
  | i a =>
    intro x hx
    simp only [List.mem_cons, List.not_mem_nil, or_false] at hx
    rcases hx with rfl | rfl | rfl
    · cases n <;> exact True.intro
    · cases n <;> exact True.intro
    · cases n <;> (show PySem.PyData.strOk "" = true; decide +kernel)
  | s y =>
    intro x hx
    simp only [List.mem_cons, List.not_mem_nil, or_false] at hx
    rcases hx with rfl | rfl | rfl
    · cases n <;> exact True.intro
    · cases n <;> exact True.intro
    · cases n <;> exact h
theorem keyR_cmp {r : List Vl} (h : ∀ v ∈ r, v.ok) (n : Nat) : cmpD (n + 2) (keyR r) := by
  intro x hx
  obtain ⟨v, hv, rfl⟩ := List.mem_map.mp hx
  exact Vl.key_cmp (h v hv) n
theorem keyR_ord {r r' : List Vl} (h : ∀ v ∈ r, v.ok) (h' : ∀ v ∈ r', v.ok) : OrdOk (keyR r) (keyR r') :=
  ⟨⟨keyR_cmp h 62, keyR_cmp h' 62⟩, keyR_alike r r', by unfold keyR; rw [toP]; exact fun z => nomatch z⟩
theorem lt_irrefl_list : ∀ l : List Nat, ¬ l < l := fun l => List.lt_irrefl l
theorem Vl.lt_irrefl (v : Vl) : v.lt v = false := by
  cases v with
  | i a => simp [Vl.lt]
  | s x => simp only [Vl.lt, decide_eq_false_iff_not]; exact List.lt_irrefl _
theorem Vl.lt_asymm {u v : Vl} (h : u.lt v = true) : v.lt u = false := by
  cases u <;> cases v <;> simp only [Vl.lt, decide_eq_true_eq, decide_eq_false_iff_not, reduceCtorEq, Bool.false_eq_true] at h ⊢
  · omega
  · exact List.lt_asymm h
theorem ltR_irrefl : ∀ r : List Vl, ltR r r = false
  | [] => rfl
  | u :: r => by rw [ltR, if_pos rfl, ltR_irrefl r]
theorem ltR_asymm : ∀ {r r' : List Vl}, ltR r r' = true → ltR r' r = false
  | [], [], h => rfl
  | [], _ :: _, h => rfl
  | _ :: _, [], h => by rw [ltR] at h; cases h
  | u :: r, v :: r', h => by
    rw [ltR] at h ⊢
    by_cases e : u = v
    · rw [if_pos e] at h
      rw [if_pos e.symm]
      exact ltR_asymm h
    · rw [if_neg e] at h
      rw [if_neg fun z => e z.symm]
      exact Vl.lt_asymm h
/-- a row as a datum -/
def rowD (r : List Vl) : D := .tup (r.map Vl.d)
theorem rowD_cmp {r : List Vl} (h : ∀ v ∈ r, v.ok) (n : Nat) : cmpD (n + 1) (rowD r) := by
  intro x hx
  obtain ⟨v, hv, rfl⟩ := List.mem_map.mp hx
  exact Vl.cmp (h v hv) n
theorem at1l {xs : List D} {d : D} {k : D → Prop} (h : xs.getLast? = some d) (hk : k d) : At1 xs (-1) k := by
  refine ⟨d, ?_, hk⟩
  rw [List.getLast?_eq_getElem?] at h
  have hl : 0 < xs.length := by
    cases xs with
    | nil => simp at h
    | cons _ _ => simp
  unfold atI
  have e : ixN xs.length (-1) = some (xs.length - 1) := by
    unfold ixN
    simp
    omega
  rw [e]
  exact h
theorem TkS.same {M : MM} : ∀ r : List (Option D), TkS M r r
  | [] => .nil
  | none :: r => .drop (TkS.same r)
  | some d :: r => .cons (.same d) (TkS.same r)
theorem sub_new {M : MM} {p : Addr} {o : MO} (h : M p = none) : Sub M (updM M p o) := fun a u e => updM_get (mm_ne e h) e
theorem thick_new {ρ : List (Option D)} {M : MM} {p : Addr} {o : MO} (h : M p = none) : Thick ⟨ρ, updM M p o⟩ ⟨ρ, M⟩ := ⟨sub_new h, TkS.same ρ⟩
theorem tf_new {M : MM} {p : Addr} {o : MO} (h : M p = none) : Tf (updM M p o) M p = some o := by
  unfold Tf
  rw [h]
  exact updM_same
theorem updM_swap {M : MM} {a b : Addr} {o u : MO} (h : a ≠ b) : updM (updM M a o) b u = updM (updM M b u) a o := by
  funext c
  unfold updM
  by_cases h1 : c = b
  · by_cases h2 : c = a
    · exact absurd (h2.symm.trans h1) h
    · simp [h1]
      intro z
      exact absurd z.symm h
  · by_cases h2 : c = a <;> simp [h1, h2]
    intro z
    exact absurd z h
abbrev dI (os : List Int) : D := .lst (os.map .int)
theorem sIx_ge {n d : Nat} {j : Int} (h0 : 0 ≤ j) (h : (n : Int) ≤ j) : HT.sIx n d (some j) = n := by
  show (if j < 0 then (j + (n : Int)).toNat else min j.toNat n) = n
  rw [if_neg (by omega)]
  omega
theorem cutD_gen (xs : List D) {i j : Int} (hi : 0 ≤ i) (hij : i ≤ j) : cutD xs (some i) (some j) = (xs.drop i.toNat).take (j - i).toNat := by
  by_cases h : j ≤ (xs.length : Int)
  · exact cutD_nn xs hi hij h
  · by_cases h2 : i ≤ (xs.length : Int)
    · have e : cutD xs (some i) (some j) = cutD xs (some i) (some (xs.length : Int)) := by
        unfold cutD
        rw [sIx_ge (j := j) (by omega) (by omega), sIx_ge (j := (xs.length : Int)) (by omega) (by omega)]
      rw [e, cutD_nn xs hi h2 (Int.le_refl _), List.take_of_length_le (by rw [List.length_drop]; omega), List.take_of_length_le (by rw [List.length_drop]; omega)]
    · have e : xs.drop i.toNat = [] := List.drop_eq_nil_iff.mpr (by omega)
      rw [e, List.take_nil]
      unfold cutD
      rw [sIx_ge (j := i) (by omega) (by omega), List.drop_length, List.take_nil]
theorem tf_get {M M2 : MM} {a : Addr} (h : M2 a = none) : Tf M M2 a = M a := by
  unfold Tf
  rw [h]
theorem sub_two {M : MM} {a p : Addr} {o u : MO} (ha : M a = none) (hp : M p = none) : Sub M (updM (updM M a o) p u) := fun b v e => updM_get (mm_ne e hp) (updM_get (mm_ne e ha) e)
end DL


section
open PySem L2 Evl DL
namespace K01

def lowI (n : Int) (k : Nat) : List Int := (List.range k).map fun i => n / 256 ^ i % 256
def numOf (os : List Int) : Int := os.foldr (fun o t => t * 256 + o) 0
def Oct (os : List Int) : Prop := ∀ o ∈ os, 0 ≤ o ∧ o < 256
theorem lowI_len (n : Int) (k : Nat) : (lowI n k).length = k := by
  unfold lowI
  rw [List.length_map, List.length_range]
theorem lowI_succ (n : Int) (k : Nat) : lowI n (k + 1) = lowI n k ++ [n / 256 ^ k % 256] := by
  unfold lowI
  rw [List.range_succ, List.map_append]
  rfl
theorem lowI_2 (n : Int) : lowI n 2 = [n % 256, n / 256 % 256] := by
  show [n / 256 ^ 0 % 256, n / 256 ^ 1 % 256] = _
  simp
theorem lowI_oct (n : Int) (k : Nat) : Oct (lowI n k) := fun o h => by
  obtain ⟨i, _, rfl⟩ := List.mem_map.mp h
  exact ⟨Int.emod_nonneg _ (by decide), Int.emod_lt_of_pos _ (by decide)⟩
theorem num_low2 {n : Int} (h : 0 ≤ n ∧ n < 65536) : numOf (lowI n 2) = n := by
  rw [lowI_2]
  show (0 * 256 + n / 256 % 256) * 256 + n % 256 = n
  omega
theorem numOf_cons (o : Int) (os : List Int) : numOf (o :: os) = numOf os * 256 + o := rfl
theorem numOf_nonneg : ∀ {os : List Int}, Oct os → 0 ≤ numOf os
  | [], _ => Int.le_refl _
  | o :: os, h => by
    have h1 := numOf_nonneg (os := os) fun x hx => h x (List.mem_cons_of_mem _ hx)
    have h2 := h o List.mem_cons_self
    rw [numOf_cons]
    omega
/-- no zero at the high end -/
def Tidy (os : List Int) : Prop := Oct os ∧ os.getLast? ≠ some 0
theorem Tidy.tail {o : Int} {os : List Int} (h : Tidy (o :: os)) : Tidy os := by
  refine ⟨fun x hx => h.1 x (List.mem_cons_of_mem _ hx), fun z => h.2 ?_⟩
  cases os with
  | nil => simp at z
  | cons p r => rw [List.getLast?_cons_cons]; exact z
theorem Tidy.pos : ∀ {os : List Int}, Tidy os → os ≠ [] → 0 < numOf os
  | [], _, h => absurd rfl h
  | [o], h, _ => by
    have h1 := h.1 o List.mem_cons_self
    have h2 : o ≠ 0 := fun z => h.2 (by rw [z]; rfl)
    show 0 < 0 * 256 + o
    omega
  | o :: p :: r, h, _ => by
    have h1 := Tidy.pos h.tail (by simp)
    have h2 := h.1 o List.mem_cons_self
    rw [numOf_cons]
    omega
theorem Tidy.drop {os : List Int} (h : Tidy os) : ∀ n, Tidy (os.drop n) := by
  intro n
  induction n generalizing os with
  | zero => exact h
  | succ n ih =>
    cases os with
    | nil => exact h
    | cons o r => exact ih h.tail
/-! ### plain data -/
def okSign (c : Nat) : Bool := decide (c = 10 ∨ (32 ≤ c ∧ c ≤ 126 ∧ c ≠ 37))
inductive It where
  | non
  | num (neg : Bool) (os : List Int)
  | txt (cs : List Nat)
def It.d : It → D
  | .non => .non
  | .num neg os => .int (if neg = true then -numOf os else numOf os)
  | .txt cs => .str ⟨cs.toArray⟩
def It.enc : It → List Int
  | .non => [0]
  | .num neg os => [if neg = true then 2 else 1, (os.length : Int)] ++ os
  | .txt cs => [3] ++ lowI (cs.length : Int) 2 ++ cs.map fun (c : Nat) => (c : Int)
def It.ok : It → Prop
  | .non => True
  | .num neg os => Tidy os ∧ os.length ≤ 255 ∧ (neg = true → os ≠ [])
  | .txt cs => cs.length ≤ 65535 ∧ ∀ c ∈ cs, okSign c = true
theorem okSign_lt {c : Nat} (h : okSign c = true) : c < 127 := by
  unfold okSign at h
  rw [decide_eq_true_eq] at h
  omega
theorem It.enc_oct {x : It} (h : x.ok) : Oct x.enc := by
  cases x with
  | non => intro o ho; simp [It.enc] at ho; omega
  | num neg os =>
    obtain ⟨h1, h2, _⟩ := h
    intro o ho
    simp only [It.enc, List.cons_append, List.nil_append, List.mem_cons] at ho
    rcases ho with rfl | rfl | ho
    · split <;> omega
    · omega
    · exact h1.1 o ho
  | txt cs =>
    obtain ⟨h1, h2⟩ := h
    intro o ho
    simp only [It.enc, List.mem_append, List.mem_cons, List.not_mem_nil, or_false, List.mem_map] at ho
    rcases ho with (rfl | ho) | ⟨c, hc, rfl⟩
    · omega
    · exact lowI_oct _ _ o ho
    · have := okSign_lt (h2 c hc)
      omega
/-- what the octets from a place on tell: the datum, and how many octets -/
def unP : List Int → Option (D × Nat)
  | [] => none
  | k :: r =>
    if k = 0 then some (.non, 1)
    else if k = 1 ∨ k = 2 then
      match r with
      | [] => none
      | s :: q => if s.toNat ≤ q.length then
          (if (0 < s ∧ q[s.toNat - 1]? = some 0) ∨ (k = 2 ∧ numOf (q.take s.toNat) = 0) then none else some (.int (if k = 2 then -numOf (q.take s.toNat) else numOf (q.take s.toNat)), 2 + s.toNat))
        else none
    else if k = 3 then
      (if r.length < 2 then none else
        if (numOf (r.take 2)).toNat ≤ (r.drop 2).length then
          (if ((r.drop 2).take (numOf (r.take 2)).toNat).all (fun c => okSign c.toNat) = true then some (.str ⟨(((r.drop 2).take (numOf (r.take 2)).toNat).map Int.toNat).toArray⟩, 3 + (numOf (r.take 2)).toNat) else none)
        else none)
    else none
theorem unP_enc {x : It} (h : x.ok) (rest : List Int) : unP (x.enc ++ rest) = some (x.d, x.enc.length) := by
  cases x with
  | non => rfl
  | num neg os =>
    obtain ⟨h1, h2, h3⟩ := h
    have hk : (if neg = true then (2 : Int) else 1) ≠ 0 := by split <;> decide
    have hk2 : (if neg = true then (2 : Int) else 1) = 1 ∨ (if neg = true then (2 : Int) else 1) = 2 := by cases neg <;> simp
    have hk3 : (if neg = true then (2 : Int) else 1) = 2 ↔ neg = true := by cases neg <;> simp
    simp only [It.enc, It.d, List.cons_append, List.nil_append, unP]
    rw [if_neg hk, if_pos hk2, Int.toNat_natCast, if_pos (by simp), List.take_left]
    have hno : ¬ ((0 < (os.length : Int) ∧ (os ++ rest)[os.length - 1]? = some 0) ∨ ((if neg = true then (2 : Int) else 1) = 2 ∧ numOf os = 0)) := by
      rintro (⟨z1, z2⟩ | ⟨z1, z2⟩)
      · rw [List.getElem?_append_left (by omega), ← List.getLast?_eq_getElem?] at z2
        exact h1.2 z2
      · have := h1.pos (h3 (hk3.mp z1))
        omega
    rw [if_neg hno]
    simp only [hk3, List.length_cons]
    congr 2
    omega
  | txt cs =>
    obtain ⟨h1, h2⟩ := h
    simp only [It.enc, It.d, List.cons_append, List.nil_append, unP, List.append_assoc]
    have hl : (lowI (cs.length : Int) 2).length = 2 := lowI_len _ _
    have ht : (lowI (cs.length : Int) 2 ++ (cs.map (fun (c : Nat) => (c : Int)) ++ rest)).take 2 = lowI (cs.length : Int) 2 := by rw [List.take_append_of_le_length (by omega), List.take_of_length_le (by omega)]
    have hd : (lowI (cs.length : Int) 2 ++ (cs.map (fun (c : Nat) => (c : Int)) ++ rest)).drop 2 = cs.map (fun (c : Nat) => (c : Int)) ++ rest := by rw [List.drop_append_of_le_length (by omega), List.drop_of_length_le (by omega)]; rfl
    rw [ht, hd, num_low2 (by omega), Int.toNat_natCast]
    rw [if_neg (by decide), if_neg (by decide), if_pos True.intro, if_neg (by simp [hl]), if_pos (by simp)]
    rw [List.take_append_of_le_length (by simp), List.take_of_length_le (by simp)]
    rw [if_pos (by
      rw [List.all_eq_true]
      intro c hc
      obtain ⟨n, hn, rfl⟩ := List.mem_map.mp hc
      exact h2 n hn)]
    rw [List.map_map]
    simp [hl]
    refine ⟨?_, by omega⟩
    rw [show (Int.toNat ∘ fun (c : Nat) => (c : Int)) = _root_.id from by funext c; simp]
    simp
def encs (xs : List It) : List Int := xs.flatMap It.enc
def many (n : Int) : List Int := 4 :: lowI n 2
theorem encs_append (a b : List It) : encs (a ++ b) = encs a ++ encs b := List.flatMap_append
theorem encs_cons (a : It) (b : List It) : encs (a :: b) = a.enc ++ encs b := rfl
theorem encs_nil : encs [] = [] := rfl
theorem It.enc_pos (x : It) : 1 ≤ x.enc.length := by cases x <;> simp [It.enc]
theorem It.enc_head (x : It) : ∃ k r, x.enc = k :: r ∧ k ≠ 4 := by
  cases x with
  | non => exact ⟨0, [], rfl, by decide⟩
  | num neg os => exact ⟨_, _, rfl, by split <;> decide⟩
  | txt cs => exact ⟨3, _, rfl, by decide⟩
theorem unP_many (r : List Int) : unP (4 :: r) = none := by simp [unP]
end K01

end

section
open PySem L2 Evl DL
local macro_rules | `(tactic| walk_at "blk") => `(tactic| first | exact rfl | (dsimp only [L2.Cx.blk, L2.Cx.tr, L2.Cx.suite, L2.Cx.nox, L2.cxOf, L2.Cx.wish]; done) | (dsimp only [L2.Cx.blk, L2.Cx.tr, L2.Cx.suite, L2.Cx.nox, L2.cxOf, L2.Cx.wish]; exact rfl))
local macro_rules | `(tactic| walk_at "nrm") => `(tactic| dsimp only [startD, List.map_cons, List.map_nil, List.length_cons, List.length_nil, List.replicate, List.set_cons_zero, List.set_cons_succ, List.cons_append, List.nil_append, Nat.reduceAdd, Nat.reduceSub, wipeD])
local macro_rules | `(tactic| walk_at "mm") => `(tactic| first | assumption | exact updM_same | (refine updM_get ?_ ?_ <;> first | assumption | (apply Ne.symm; assumption) | walk_at "mm"))
local macro_rules | `(tactic| walk_at "side") => `(tactic| first | omega | (simp only [List.length_cons, List.length_nil]; done) | (simp only [List.length_cons, List.length_nil, List.length_append, List.length_map, sizeLine_eq]; omega) | exact Or.inr ⟨by omega, by omega⟩ | exact Or.inl ⟨by omega, by omega⟩ | exact And.intro (by omega) (by omega) | exact And.intro (by omega) (And.intro (by omega) (by decide)))
local macro_rules | `(tactic| walk_at "d0") => `(tactic| first
  | ((with_reducible first | show Pd.nx _ _ | show Pd.bk _ _ | show Pd.ct _ _ | show Pd.rt _ _ _); walk_at "nrm")
  | (with_reducible refine' es_set ?_) | (with_reducible refine' es_drop ?_) | (with_reducible refine' es_ret ?_) | (with_reducible refine' w_if ?_) | (with_reducible refine' es_next ?_) | (with_reducible refine' es_break ?_) | (with_reducible refine' es_cont ?_) | (with_reducible refine' es_retN ?_) | (with_reducible refine' es_asg ?_) | (with_reducible refine' es_for ?_) | ((with_reducible refine' w_aug ?hh ?_); (case hh => exact rfl)))
local macro_rules | `(tactic| walk_at "dx") => `(tactic| first
  | ((with_reducible refine' ed_var ?hh ?_); (case hh => exact rfl)) | ((with_reducible refine' w_varF ?hh ?hm ?_); (case hh => exact rfl); (case hm => walk_at "mm"))
  | (with_reducible refine' w_int ?_) | (with_reducible refine' w_str ?_) | (with_reducible refine' w_bl ?_) | (with_reducible refine' w_non ?_) | (with_reducible refine' w_add ?_) | (with_reducible refine' w_sub ?_) | (with_reducible refine' w_mul ?_) | (with_reducible refine' w_mulW ?_) | (with_reducible refine' w_mod ?_) | (with_reducible refine' w_fdiv ?_) | (with_reducible refine' w_fdivW ?_) | (with_reducible refine' w_pow ?_) | (with_reducible refine' w_neg ?_) | (with_reducible refine' w_lt ?_) | (with_reducible refine' w_le ?_) | (with_reducible refine' w_gt ?_) | (with_reducible refine' w_ge ?_) | (with_reducible refine' w_eq ?_) | (with_reducible refine' w_ne ?_) | (with_reducible refine' w_isN ?_) | (with_reducible refine' w_notN ?_) | (with_reducible refine' w_andV ?_) | (with_reducible refine' w_orV ?_) | (with_reducible refine' w_notV ?_) | (with_reducible refine' w_ife ?_) | (with_reducible refine' w_lst ?_) | (with_reducible refine' w_lstM ?_) | (with_reducible refine' w_tup ?_) | (with_reducible refine' w_ixL ?_) | (with_reducible refine' w_ixT ?_) | (with_reducible refine' w_slL ?_) | (with_reducible refine' w_cat ?_) | (with_reducible refine' w_len ?_) | (with_reducible refine' w_list ?_) | (with_reducible refine' w_app ?_) | (with_reducible refine' w_ext ?_) | (with_reducible refine' w_pop ?_) | (with_reducible refine' w_call ?_) | (with_reducible refine' w_eqD ?_) | (with_reducible refine' w_neD ?_))
local macro_rules | `(tactic| walk_at "dt") => `(tactic| first
  | (with_reducible refine' w_test ?_) | (with_reducible refine' w_B ?_) | (with_reducible refine' w_and ?_) | (with_reducible refine' w_or ?_) | (with_reducible refine' w_not ?_) | (with_reducible refine' et_yes ?_) | (with_reducible refine' ea_nil ?_) | (with_reducible refine' ea_cons ?_) | (with_reducible refine' eo_none ?_) | (with_reducible refine' w_part ?_) | (with_reducible refine' eg_name ?_) | (with_reducible refine' w_setM ?_) | (with_reducible refine' w_tupT ?_) | (with_reducible refine' egs_nil ?_) | (with_reducible refine' egs_cons ?_) | (with_reducible refine' w_iL ?_) | (with_reducible refine' w_iT ?_) | (with_reducible refine' w_iR1 ?_) | (with_reducible refine' w_iR2 ?_) | (with_reducible refine' w_iRev ?_))
local macro_rules | `(tactic| walk_at "dw") => `(tactic| first
  | (with_reducible refine' i1 ?_) | (with_reducible refine' i2 ?_) | (with_reducible refine' s1 ?_) | (with_reducible refine' s2 ?_) | (with_reducible refine' b1 ?_) | (with_reducible refine' l1_lst ?_) | (with_reducible refine' l1_frz ?_) | (with_reducible refine' l1_tup ?_) | (with_reducible refine' ll1_lst ?_) | (with_reducible refine' ll1_frz ?_) | (with_reducible refine' f1_lst ?_) | (with_reducible refine' f1_frz ?_) | (with_reducible refine' t1 ?_) | (with_reducible refine' n1 ?_) | (with_reducible refine' e2_int ?_) | (with_reducible refine' e2_str ?_) | (with_reducible refine' e2_bl ?_) | (with_reducible refine' br_not ?_) | (with_reducible refine' br_true ?_) | (with_reducible refine' br_false ?_)
  | ((with_reducible refine' sc ?hh ?_); (case hh => walk_at "side")) | ((with_reducible refine' l1_adr ?hm ?_); (case hm => walk_at "mm")) | ((with_reducible refine' ll1_adr ?hm ?_); (case hm => walk_at "mm")) | ((with_reducible refine' m1 ?hm ?_); (case hm => walk_at "mm")) | ((with_reducible refine' g1 ?hm ?_); (case hm => walk_at "mm"))
  | ((with_reducible refine' br_pos ?hh ?_); (case hh => omega)) | ((with_reducible refine' br_neg ?hh ?_); (case hh => omega)))
local macro_rules | `(tactic| walk_at "dy") => `(tactic| first
  | (with_reducible refine' w_raise ?_) | (with_reducible refine' w_isI ?_) | (with_reducible refine' w_gtD ?_) | (with_reducible refine' w_ltD ?_) | (with_reducible refine' w_leD ?_) | (with_reducible refine' w_geD ?_) | (with_reducible refine' w_mulS ?_) | (with_reducible refine' w_addS ?_) | (with_reducible refine' w_catT ?_) | (with_reducible refine' w_max2 ?_) | (with_reducible refine' w_min2 ?_) | (with_reducible refine' w_intX ?_) | (with_reducible refine' w_slM ?_) | (with_reducible refine' w_iR3 ?_) | (with_reducible refine' bn_non ?_) | (with_reducible refine' bn_int ?_) | (with_reducible refine' bn_str ?_) | (with_reducible refine' bn_bl ?_) | (with_reducible refine' bn_lst ?_) | (with_reducible refine' bn_frz ?_) | (with_reducible refine' bn_tup ?_) | (with_reducible refine' bn_adr ?_) | (with_reducible refine' ib_int ?_) | (with_reducible refine' ib_bl ?_) | (with_reducible refine' i3 ?_) | (with_reducible refine' DL.s2 ?_)
  | ((with_reducible refine' is_yes ?hh ?_); (case hh => (dsimp only [tyN]; decide +kernel))) | ((with_reducible refine' is_no ?hh ?_); (case hh => (dsimp only [tyN]; decide +kernel))))
local macro_rules | `(tactic| walk_at "dz") => `(tactic| first
  | (with_reducible refine' es_nextE ?_) | (with_reducible refine' w_tru ?_) | (with_reducible refine' tr_lst ?_) | (with_reducible refine' tr_frz ?_) | (with_reducible refine' tr_tup ?_) | (with_reducible refine' tr_bl ?_) | (with_reducible refine' tr_non ?_) | (with_reducible refine' tr_int ?_) | (with_reducible refine' w_inS ?_) | (with_reducible refine' w_ninS ?_) | (with_reducible refine' w_iS ?_) | (with_reducible refine' w_ordc ?_) | (with_reducible refine' w_abs ?_) | (with_reducible refine' w_lenS ?_) | (with_reducible refine' w_ixS ?_) | (with_reducible refine' w_join ?_) | (with_reducible refine' w_tupOf ?_) | (with_reducible refine' w_listRev ?_) | (with_reducible refine' w_unl ?_) | (with_reducible refine' w_chain ?_)
  | ((with_reducible refine' tr_adr ?hm ?_); (case hm => walk_at "mm")))
local macro_rules | `(tactic| walk_at "dm") => `(tactic| repeat (first | walk_at "dw" | walk_at "dx" | walk_at "dt" | walk_at "d0" | walk_at "dy" | walk_at "dz"))
local macro_rules | `(tactic| walk_at "dl") => `(tactic| repeat (first | walk_at "dw" | walk_at "dx" | walk_at "dt" | walk_at "d0" | walk_at "dy" | walk_at "dz" | (with_reducible refine' es_seq ?_)))
local macro_rules | `(tactic| walk_at "go") => `(tactic| ((try dsimp only [L2.cxOf, L2.Cx.nox, L2.Cx.wish]); walk_at "dl"))

namespace K01
def top (i : Nat) : Stmt := PySem.Challenge.pw_herefrom_k01_packs_of_all_sizes.main.body.getD i (.Pass ⟨0, 0, 0, 0⟩)
/-- the text that a statement gives a name -/
def strOf : Stmt → Str
  | .Assign _ (.Constant (.str x) _ _) _ => x
  | _ => ""
def SG : Str := strOf (top 11)
structure Tx (K : PySem.W.Frag) (mg : Str → Option Value) (Co Cf : Addr) : Prop where
  isinstance : mg "isinstance" = none
  int : mg "int" = none
  bool : mg "bool" = none
  tuple : mg "tuple" = none
  len : mg "len" = none
  list : mg "list" = none
  range : mg "range" = none
  reversed : mg "reversed" = none
  abs : mg "abs" = none
  ord : mg "ord" = none
  max : mg "max" = none
  min : mg "min" = none
  c_NOTHING : ∃ u, mg "NOTHING" = some u ∧ RelV (.int 0) u
  c_NUMBER : ∃ u, mg "NUMBER" = some u ∧ RelV (.int 1) u
  c_MINUS : ∃ u, mg "MINUS" = some u ∧ RelV (.int 2) u
  c_TEXT : ∃ u, mg "TEXT" = some u ∧ RelV (.int 3) u
  c_MANY : ∃ u, mg "MANY" = some u ∧ RelV (.int 4) u
  c_LINE_END : ∃ u, mg "LINE_END" = some u ∧ RelV (.int 10) u
  c_BARRED : ∃ u, mg "BARRED" = some u ∧ RelV (.int 37) u
  c_SIGNS : ∃ u, mg "SIGNS" = some u ∧ RelV (.str SG) u
  x_Malformed : XCl K mg "Malformed" Co
  x_FollowError : XCl K mg "FollowError" Cf
  exm : PySem.W.exmOne K (.ref Co) (.ref Cf) = some true
  isx : ExcC K Co
  kit : PySem.W.kitOne K (.ref Co) (.ref Co) = some true
section
variable {P : Program} {w : World} {K : PySem.W.Frag} {mg : Str → Option Value} {base : Heap} {Co Cf : Addr}
abbrev s_is_integer : Stmt := top 1
theorem sc_is_integer : FnScope ["data"] ["data"] (defScope s_is_integer) := ⟨rfl, rfl, rfl, by decide +kernel, rfl, by decide +kernel, by decide +kernel⟩
def isInt : D → Bool
  | .int _ => true
  | _ => false
def T_is_integer : DSp := fun ds M R => ∃ d, ds = [d] ∧ (tyN d == "?") = false ∧ (∀ b, d ≠ .bl b) ∧ R (.bl (isInt d)) M
theorem d_is_integer (T : Tx K mg Co Cf) (F : Dl K mg "is_integer" s_is_integer) : Df P w K mg base 1 "is_integer" 1 T_is_integer := by
  refine F.ok sc_is_integer (fun ds M R ⟨_, e, _⟩ => by rw [e]; rfl) (fun _ _ _ _ _ _ us hl => match us, hl with | [_], _ => rfl) fun f cdv A outer s H E hr => ⟨_, (pss_one (ps_ret (pe_and (pe_callB call_isi (by rfl) T.isinstance (by decide +kernel) (pa_cons (pv 0) (pa_cons (pe_bltn (v := .ty "int") (by rfl) T.int (by decide +kernel) rfl) pa_nil))) (pe_one (pe_not (pe_callB call_isi (by rfl) T.isinstance (by decide +kernel) (pa_cons (pv 0) (pa_cons (pe_bltn (v := .ty "bool") (by rfl) T.bool (by decide +kernel) rfl) pa_nil))))))))
   , ?_⟩
  rintro ds M R ⟨d, rfl, ht, hb, hR⟩
  cases d with
  | bl b => exact absurd rfl (hb b)
  | oth v => simp [tyN] at ht
  | _ => walk_at "go"; exact hR
abbrev s_low_octets : Stmt := top 14
theorem sc_low_octets : FnScope ["number", "count", "found", "_"] ["number", "count"] (defScope s_low_octets) := ⟨rfl, rfl, rfl, by decide +kernel, rfl, by decide +kernel, by decide +kernel⟩
def T_low_octets : DSp := fun ds M R => ∃ (n : Int) (k : Nat), ds = [.int n, .int (k : Int)] ∧ k ≤ 1000 ∧ R (dI (lowI n k)) M
theorem d_low_octets (T : Tx K mg Co Cf) (F : Dl K mg "low_octets" s_low_octets) : Df P w K mg base 1 "low_octets" 2 T_low_octets := by
  refine F.ok sc_low_octets (fun ds M R ⟨n, k, e, _⟩ => by rw [e]; rfl) (fun _ _ _ _ _ _ us hl => match us, hl with | [_, _], _ => rfl) fun f cdv A outer s H E hr => ⟨_, (pss_cons (ps_set (i := 2) sc_low_octets.nd rfl (by first | exact Or.inl rfl | exact Or.inr rfl) (pe_lstM pa_nil))
      (pss_cons (ps_for PassesOwn.never rfl (pi_range1 (by rfl) T.range (pa_cons (pv 1) pa_nil)) (pg_name (i := 3) sc_low_octets.nd rfl (by first | exact Or.inl rfl | exact Or.inr rfl))
      (pss_cons (ps_expr (pe_bm PySem.F.plainAttrs_list PySem.F.slot_list_append PySem.F.type_list_append mt_append (pv 2) (pa_cons (pe_op op_mod (pv 0) pe_int) pa_nil)))
      (pss_one (ps_set (i := 0) sc_low_octets.nd rfl (by first | exact Or.inl rfl | exact Or.inr rfl) (pe_op op_fdiv (pv 0) pe_int)))))
      (pss_one (ps_ret (pvF 2)))))
   , ?_⟩
  rintro ds M R ⟨n, k, rfl, hk, hR⟩
  walk_at "go"
  intro p hp
  walk_at "dl"
  have e0 : ((k : Int)).toNat = k := by omega
  rw [e0]
  refine lp_range (fun i s' => ∃ x : Option D, s' = ⟨[some (.int (n / 256 ^ i)), some (.int (k : Int)), some (.adr p), x], updM M p (.lst ((lowI n i).map .int))⟩) ⟨none, ?_⟩ ?_ ?_
  · simp only [Int.pow_zero, Int.ediv_one]; rfl
  · rintro i _ hi ⟨x, rfl⟩
    walk_at "dl"
    refine sc (by rw [List.length_map, lowI_len, sizeLine_eq]; omega) ?_
    walk_at "dl"
    rw [lowI_succ, updM_updM, Int.pow_succ, ← Int.ediv_ediv_of_nonneg (Int.pow_nonneg (by decide)), List.map_append]
    exact ⟨_, rfl⟩
  · rintro _ ⟨x, rfl⟩
    walk_at "dl"
    try walk_at "nrm"
    rw [delM_updM hp]
    exact hR
abbrev s_number_of : Stmt := top 15
theorem sc_number_of : FnScope ["octets", "total", "octet"] ["octets"] (defScope s_number_of) := ⟨rfl, rfl, rfl, by decide +kernel, rfl, by decide +kernel, by decide +kernel⟩
def T_number_of : DSp := fun ds M R => ∃ os : List Int, ds = [dI os] ∧ R (.int (numOf os)) M
theorem d_number_of (T : Tx K mg Co Cf) (F : Dl K mg "number_of" s_number_of) : Df P w K mg base 1 "number_of" 1 T_number_of := by
  refine F.ok sc_number_of (fun ds M R ⟨n, e, _⟩ => by rw [e]; rfl) (fun _ _ _ _ _ _ us hl => match us, hl with | [_], _ => rfl) fun f cdv A outer s H E hr => ⟨_, (pss_cons (ps_set (i := 1) sc_number_of.nd rfl (by first | exact Or.inl rfl | exact Or.inr rfl) pe_int)
      (pss_cons (ps_for PassesOwn.never rfl (pi_reversed (by rfl) T.reversed (pa_cons (pv 0) pa_nil)) (pg_name (i := 2) sc_number_of.nd rfl (by first | exact Or.inl rfl | exact Or.inr rfl))
      (pss_one (ps_set (i := 1) sc_number_of.nd rfl (by first | exact Or.inl rfl | exact Or.inr rfl) (pe_op op_add (pe_op op_mul (pv 1) pe_int) (pv 2)))))
      (pss_one (ps_ret (pv 1)))))
   , ?_⟩
  rintro ds M R ⟨os, rfl, hR⟩
  walk_at "go"
  refine lp_fold (fun (t : Int) x => ⟨[some (dI os), some (.int t), x], M⟩) (fI fun t o => t * 256 + o) _ 0 none ?_ ?_
  · intro a x d hd N hN
    rw [← List.map_reverse] at hd
    obtain ⟨o, _, rfl⟩ := mem_ints hd
    walk_at "dl"
    exact hN _
  · intro x
    walk_at "dl"
    rw [← List.map_reverse, foldl_fI, List.foldl_reverse]
    exact hR
abbrev s_size_octets : Stmt := top 16
theorem sc_size_octets : FnScope ["number", "found"] ["number"] (defScope s_size_octets) := ⟨rfl, rfl, rfl, by decide +kernel, rfl, by decide +kernel, by decide +kernel⟩
def T_size_octets : DSp := fun ds M R => ∃ os : List Int, ds = [.int (numOf os)] ∧ Tidy os ∧ os.length ≤ 1000 ∧ R (dI os) M
theorem d_size_octets (T : Tx K mg Co Cf) (F : Dl K mg "size_octets" s_size_octets) : Df P w K mg base 1 "size_octets" 1 T_size_octets := by
  refine F.ok sc_size_octets (fun ds M R ⟨n, e, _⟩ => by rw [e]; rfl) (fun _ _ _ _ _ _ us hl => match us, hl with | [_], _ => rfl) fun f cdv A outer s H E hr => ⟨_, (pss_cons (ps_set (i := 1) sc_size_octets.nd rfl (by first | exact Or.inl rfl | exact Or.inr rfl) (pe_lstM pa_nil))
      (pss_cons (ps_while PassesOwn.never (pt_cmpR op_gt (pv 0) pe_int (nomark _))
      (pss_cons (ps_expr (pe_bm PySem.F.plainAttrs_list PySem.F.slot_list_append PySem.F.type_list_append mt_append (pv 1) (pa_cons (pe_op op_mod (pv 0) pe_int) pa_nil)))
      (pss_one (ps_set (i := 0) sc_size_octets.nd rfl (by first | exact Or.inl rfl | exact Or.inr rfl) (pe_op op_fdiv (pv 0) pe_int)))))
      (pss_one (ps_ret (pvF 1)))))
   , ?_⟩
  rintro ds M R ⟨os, rfl, ht, hl, hR⟩
  walk_at "go"
  intro p hp
  have hp : M p = none := hp
  walk_at "dl"
  refine es_while (fun m s' => ∃ j : Nat, j ≤ os.length ∧ m = os.length - j ∧ s' = ⟨[some (.int (numOf (os.drop j))), some (.adr p)], updM M p (.lst ((os.take j).map .int))⟩) os.length ⟨0, Nat.zero_le _, rfl, rfl⟩ ?_
  rintro m _ ⟨j, hj, rfl, rfl⟩
  walk_at "dl"
  refine br_dec (fun h0 => ?_) (fun h0 => ?_)
  · have hlt : j < os.length := by
      apply Nat.lt_of_not_le
      intro h
      rw [List.drop_of_length_le h] at h0
      exact absurd h0 (by decide)
    have ho := ht.1 os[j] (List.getElem_mem hlt)
    have e : numOf (os.drop j) = numOf (os.drop (j + 1)) * 256 + os[j] := by rw [List.drop_eq_getElem_cons hlt, numOf_cons]
    have e1 : numOf (os.drop j) % 256 = os[j] := by rw [e]; omega
    have e2 : numOf (os.drop j) / 256 = numOf (os.drop (j + 1)) := by rw [e]; omega
    walk_at "dl"
    refine sc (by rw [List.length_map, List.length_take, sizeLine_eq]; omega) ?_
    walk_at "dl"
    rw [e1, e2, updM_updM]
    refine ⟨os.length - (j + 1), by omega, j + 1, hlt, rfl, ?_⟩
    rw [List.take_add_one, List.getElem?_eq_getElem hlt, List.map_append]
    rfl
  · have e : j = os.length := by
      apply Nat.le_antisymm hj
      apply Nat.le_of_not_lt
      intro h
      exact h0 ((ht.drop j).pos (by intro z; have := congrArg List.length z; rw [List.length_drop, List.length_nil] at this; omega))
    subst e
    walk_at "dl"
    rw [delM_updM hp, List.take_length]
    exact hR
abbrev s_pack_plain : Stmt := top 17
theorem sc_pack_plain : FnScope ["data", "octets", "sign"] ["data"] (defScope s_pack_plain) := ⟨rfl, rfl, rfl, by decide +kernel, rfl, by decide +kernel, by decide +kernel⟩
def T_pack_plain : DSp := fun ds M R => ∃ x : It, ds = [x.d] ∧ x.ok ∧ R (dI x.enc) M
theorem sgn_ord (c : Nat) : ((⟨#[c]⟩ : Str).cps.getD 0 0 : Nat) = c := rfl
theorem d_pack_plain (T : Tx K mg Co Cf) (F : Dl K mg "pack_plain" s_pack_plain) (G_is_integer : Df P w K mg base 1 "is_integer" 1 T_is_integer) (G_low_octets : Df P w K mg base 1 "low_octets" 2 T_low_octets) (G_size_octets : Df P w K mg base 1 "size_octets" 1 T_size_octets) : Df P w K mg base 2 "pack_plain" 1 T_pack_plain := by
  refine F.ok sc_pack_plain (fun ds M R ⟨n, e, _⟩ => by rw [e]; rfl) (fun _ _ _ _ _ _ us hl => match us, hl with | [_], _ => rfl) fun f cdv A outer s H E hr => ⟨_, (pss_cons (ps_if (pt_cmp (pc_isN (pv 0)))
      (pss_one (ps_ret (pe_lst (pa_cons (pe_cst (v := .int 0) (by rfl) T.c_NOTHING) pa_nil))))
      pss_nil)
      (pss_cons (ps_if (pt_val (pe_callD G_is_integer (hr.mono (by decide)) (by rfl) (pa_cons (pv 0) pa_nil)))
      (pss_cons (ps_set (i := 1) sc_pack_plain.nd rfl (by first | exact Or.inl rfl | exact Or.inr rfl) (pe_callD G_size_octets (hr.mono (by decide)) (by rfl) (pa_cons (pe_callB call_abs (by rfl) T.abs (by decide +kernel) (pa_cons (pv 0) pa_nil)) pa_nil)))
      (pss_one (ps_ret (pe_op op_cat (pe_lst (pa_cons (pe_ifExp (pt_cmpR op_lt (pv 0) pe_int (nomark _)) (pe_cst (v := .int 2) (by rfl) T.c_MINUS) (pe_cst (v := .int 1) (by rfl) T.c_NUMBER)) (pa_cons (pe_callB call_len_seq (by rfl) T.len (by decide +kernel) (pa_cons (pv 1) pa_nil)) pa_nil))) (pv 1)))))
      pss_nil)
      (pss_one (ps_ret (pe_op op_cat (pe_op op_cat (pe_lst (pa_cons (pe_cst (v := .int 3) (by rfl) T.c_TEXT) pa_nil)) (pe_callD G_low_octets (hr.mono (by decide)) (by rfl) (pa_cons (pe_callB call_len_str (by rfl) T.len (by decide +kernel) (pa_cons (pv 0) pa_nil)) (pa_cons pe_int pa_nil)))) (pe_lc (own := [("sign", 2)]) rfl sc_pack_plain.nd (pi_str (pv 0)) (blkOk_by (N := ["data", "octets", "sign"]) (sc := defScope s_pack_plain) (by decide +kernel)) (fun _ _ _ _ _ => by (apply PG.cast; (case h => exact (pg_name (i := 2) sc_pack_plain.nd rfl (by first | exact Or.inl rfl | exact Or.inr rfl))); (case q => walk_at "blk"))) (fun _ _ _ _ _ => by (apply PTs.cast; (case h => exact pts_nil); (case q => walk_at "blk"))) (fun _ _ _ _ _ => by (apply PE.cast; (case h => exact (pe_callB call_ord (by rfl) T.ord (by decide +kernel) (pa_cons (pv 2) pa_nil))); (case q => walk_at "blk")))))))))
   , ?_⟩
  rintro ds M R ⟨x, rfl, hx, hR⟩
  cases x with
  | non =>
    dsimp only [It.d]
    walk_at "go"
    exact hR
  | num neg os =>
    obtain ⟨h1, h2, h3⟩ := hx
    dsimp only [It.d]
    walk_at "go"
    refine ⟨_, rfl, rfl, (fun b z => by cases z), ?_⟩
    walk_at "dl"
    refine br_true ?_
    walk_at "dl"
    have e0 : (if (if neg = true then -numOf os else numOf os) < 0 then -(if neg = true then -numOf os else numOf os) else (if neg = true then -numOf os else numOf os)) = numOf os := by
      have := numOf_nonneg h1.1
      cases neg <;> simp <;> omega
    rw [e0]
    refine ⟨os, rfl, h1, by omega, ?_⟩
    walk_at "dl"
    cases neg with
    | true =>
      have := h1.pos (h3 rfl)
      refine br_pos (show (if true = true then -numOf os else numOf os) < 0 by rw [if_pos rfl]; omega) ?_
      walk_at "dl"
      rw [List.length_map]
      exact hR
    | false =>
      have := numOf_nonneg h1.1
      refine br_neg (show ¬ (if false = true then -numOf os else numOf os) < 0 by rw [if_neg Bool.false_ne_true]; omega) ?_
      walk_at "dl"
      rw [List.length_map]
      exact hR
  | txt cs =>
    obtain ⟨h1, h2⟩ := hx
    dsimp only [It.d]
    walk_at "go"
    refine ⟨_, rfl, rfl, (fun b z => by cases z), ?_⟩
    walk_at "dl"
    refine br_false ?_
    walk_at "dl"
    refine sc (by rw [sizeLine_eq]; show cs.toArray.size ≤ _; simp; omega) ?_
    walk_at "dl"
    have el : ((⟨cs.toArray⟩ : Str).length : Int) = (cs.length : Int) := by show ((cs.toArray.size : Nat) : Int) = _; simp
    rw [el]
    refine ⟨_, 2, rfl, by decide, ?_⟩
    walk_at "dl"
    refine sc (by rw [List.length_map, lowI_len, sizeLine_eq]; simp) ?_
    refine ed_lcAx (α := Nat) sgn (fun (c : Nat) => .int (c : Int)) (wp_name (by decide)) ?_
    walk_at "dl"
    refine ⟨cs, by simp [signsD], by rw [sizeLine_eq]; omega, fun c _ M' _ => ?_, ?_⟩
    · walk_at "dl"
      refine sc rfl ?_
      exact ⟨rfl, rfl⟩
    walk_at "dl"
    refine sc (by simp [sizeLine_eq, lowI_len]; omega) ?_
    have e : ([D.int 3] ++ (lowI (cs.length : Int) 2).map D.int) ++ cs.map (fun (c : Nat) => D.int (c : Int)) = (It.txt cs).enc.map D.int := by simp [It.enc]
    rw [e]
    exact hR
end
end K01

end

section
open PySem L2 Evl DL
local macro_rules | `(tactic| walk_at "blk") => `(tactic| first | exact rfl | (dsimp only [L2.Cx.blk, L2.Cx.tr, L2.Cx.suite, L2.Cx.nox, L2.cxOf, L2.Cx.wish]; done) | (dsimp only [L2.Cx.blk, L2.Cx.tr, L2.Cx.suite, L2.Cx.nox, L2.cxOf, L2.Cx.wish]; exact rfl))
local macro_rules | `(tactic| walk_at "nrm") => `(tactic| dsimp only [startD, List.map_cons, List.map_nil, List.length_cons, List.length_nil, List.replicate, List.set_cons_zero, List.set_cons_succ, List.cons_append, List.nil_append, Nat.reduceAdd, Nat.reduceSub, wipeD])
local macro_rules | `(tactic| walk_at "mm") => `(tactic| first | assumption | exact updM_same | (refine updM_get ?_ ?_ <;> first | assumption | (apply Ne.symm; assumption) | walk_at "mm"))
local macro_rules | `(tactic| walk_at "side") => `(tactic| first | omega | (simp only [List.length_cons, List.length_nil]; done) | (simp only [List.length_cons, List.length_nil, List.length_append, List.length_map, sizeLine_eq]; omega) | exact Or.inr ⟨by omega, by omega⟩ | exact Or.inl ⟨by omega, by omega⟩ | exact And.intro (by omega) (by omega) | exact And.intro (by omega) (And.intro (by omega) (by decide)))
local macro_rules | `(tactic| walk_at "d0") => `(tactic| first
  | ((with_reducible first | show Pd.nx _ _ | show Pd.bk _ _ | show Pd.ct _ _ | show Pd.rt _ _ _); walk_at "nrm")
  | (with_reducible refine' es_set ?_) | (with_reducible refine' es_drop ?_) | (with_reducible refine' es_ret ?_) | (with_reducible refine' w_if ?_) | (with_reducible refine' es_next ?_) | (with_reducible refine' es_break ?_) | (with_reducible refine' es_cont ?_) | (with_reducible refine' es_retN ?_) | (with_reducible refine' es_asg ?_) | (with_reducible refine' es_for ?_) | ((with_reducible refine' w_aug ?hh ?_); (case hh => exact rfl)))
local macro_rules | `(tactic| walk_at "dx") => `(tactic| first
  | ((with_reducible refine' ed_var ?hh ?_); (case hh => exact rfl)) | ((with_reducible refine' w_varF ?hh ?hm ?_); (case hh => exact rfl); (case hm => walk_at "mm"))
  | (with_reducible refine' w_int ?_) | (with_reducible refine' w_str ?_) | (with_reducible refine' w_bl ?_) | (with_reducible refine' w_non ?_) | (with_reducible refine' w_add ?_) | (with_reducible refine' w_sub ?_) | (with_reducible refine' w_mul ?_) | (with_reducible refine' w_mulW ?_) | (with_reducible refine' w_mod ?_) | (with_reducible refine' w_fdiv ?_) | (with_reducible refine' w_fdivW ?_) | (with_reducible refine' w_pow ?_) | (with_reducible refine' w_neg ?_) | (with_reducible refine' w_lt ?_) | (with_reducible refine' w_le ?_) | (with_reducible refine' w_gt ?_) | (with_reducible refine' w_ge ?_) | (with_reducible refine' w_eq ?_) | (with_reducible refine' w_ne ?_) | (with_reducible refine' w_isN ?_) | (with_reducible refine' w_notN ?_) | (with_reducible refine' w_andV ?_) | (with_reducible refine' w_orV ?_) | (with_reducible refine' w_notV ?_) | (with_reducible refine' w_ife ?_) | (with_reducible refine' w_lst ?_) | (with_reducible refine' w_lstM ?_) | (with_reducible refine' w_tup ?_) | (with_reducible refine' w_ixL ?_) | (with_reducible refine' w_ixT ?_) | (with_reducible refine' w_slL ?_) | (with_reducible refine' w_cat ?_) | (with_reducible refine' w_len ?_) | (with_reducible refine' w_list ?_) | (with_reducible refine' w_app ?_) | (with_reducible refine' w_ext ?_) | (with_reducible refine' w_pop ?_) | (with_reducible refine' w_call ?_) | (with_reducible refine' w_eqD ?_) | (with_reducible refine' w_neD ?_))
local macro_rules | `(tactic| walk_at "dt") => `(tactic| first
  | (with_reducible refine' w_test ?_) | (with_reducible refine' w_B ?_) | (with_reducible refine' w_and ?_) | (with_reducible refine' w_or ?_) | (with_reducible refine' w_not ?_) | (with_reducible refine' et_yes ?_) | (with_reducible refine' ea_nil ?_) | (with_reducible refine' ea_cons ?_) | (with_reducible refine' eo_none ?_) | (with_reducible refine' w_part ?_) | (with_reducible refine' eg_name ?_) | (with_reducible refine' w_setM ?_) | (with_reducible refine' w_tupT ?_) | (with_reducible refine' egs_nil ?_) | (with_reducible refine' egs_cons ?_) | (with_reducible refine' w_iL ?_) | (with_reducible refine' w_iT ?_) | (with_reducible refine' w_iR1 ?_) | (with_reducible refine' w_iR2 ?_) | (with_reducible refine' w_iRev ?_))
local macro_rules | `(tactic| walk_at "dw") => `(tactic| first
  | (with_reducible refine' i1 ?_) | (with_reducible refine' i2 ?_) | (with_reducible refine' s1 ?_) | (with_reducible refine' s2 ?_) | (with_reducible refine' b1 ?_) | (with_reducible refine' l1_lst ?_) | (with_reducible refine' l1_frz ?_) | (with_reducible refine' l1_tup ?_) | (with_reducible refine' ll1_lst ?_) | (with_reducible refine' ll1_frz ?_) | (with_reducible refine' f1_lst ?_) | (with_reducible refine' f1_frz ?_) | (with_reducible refine' t1 ?_) | (with_reducible refine' n1 ?_) | (with_reducible refine' e2_int ?_) | (with_reducible refine' e2_str ?_) | (with_reducible refine' e2_bl ?_) | (with_reducible refine' br_not ?_) | (with_reducible refine' br_true ?_) | (with_reducible refine' br_false ?_)
  | ((with_reducible refine' sc ?hh ?_); (case hh => walk_at "side")) | ((with_reducible refine' l1_adr ?hm ?_); (case hm => walk_at "mm")) | ((with_reducible refine' ll1_adr ?hm ?_); (case hm => walk_at "mm")) | ((with_reducible refine' m1 ?hm ?_); (case hm => walk_at "mm")) | ((with_reducible refine' g1 ?hm ?_); (case hm => walk_at "mm"))
  | ((with_reducible refine' br_pos ?hh ?_); (case hh => omega)) | ((with_reducible refine' br_neg ?hh ?_); (case hh => omega)))
local macro_rules | `(tactic| walk_at "dy") => `(tactic| first
  | (with_reducible refine' w_raise ?_) | (with_reducible refine' w_isI ?_) | (with_reducible refine' w_gtD ?_) | (with_reducible refine' w_ltD ?_) | (with_reducible refine' w_leD ?_) | (with_reducible refine' w_geD ?_) | (with_reducible refine' w_mulS ?_) | (with_reducible refine' w_addS ?_) | (with_reducible refine' w_catT ?_) | (with_reducible refine' w_max2 ?_) | (with_reducible refine' w_min2 ?_) | (with_reducible refine' w_intX ?_) | (with_reducible refine' w_slM ?_) | (with_reducible refine' w_iR3 ?_) | (with_reducible refine' bn_non ?_) | (with_reducible refine' bn_int ?_) | (with_reducible refine' bn_str ?_) | (with_reducible refine' bn_bl ?_) | (with_reducible refine' bn_lst ?_) | (with_reducible refine' bn_frz ?_) | (with_reducible refine' bn_tup ?_) | (with_reducible refine' bn_adr ?_) | (with_reducible refine' ib_int ?_) | (with_reducible refine' ib_bl ?_) | (with_reducible refine' i3 ?_) | (with_reducible refine' DL.s2 ?_)
  | ((with_reducible refine' is_yes ?hh ?_); (case hh => (dsimp only [tyN]; decide +kernel))) | ((with_reducible refine' is_no ?hh ?_); (case hh => (dsimp only [tyN]; decide +kernel))))
local macro_rules | `(tactic| walk_at "dz") => `(tactic| first
  | (with_reducible refine' es_nextE ?_) | (with_reducible refine' w_tru ?_) | (with_reducible refine' tr_lst ?_) | (with_reducible refine' tr_frz ?_) | (with_reducible refine' tr_tup ?_) | (with_reducible refine' tr_bl ?_) | (with_reducible refine' tr_non ?_) | (with_reducible refine' tr_int ?_) | (with_reducible refine' w_inS ?_) | (with_reducible refine' w_ninS ?_) | (with_reducible refine' w_iS ?_) | (with_reducible refine' w_ordc ?_) | (with_reducible refine' w_abs ?_) | (with_reducible refine' w_lenS ?_) | (with_reducible refine' w_ixS ?_) | (with_reducible refine' w_join ?_) | (with_reducible refine' w_tupOf ?_) | (with_reducible refine' w_listRev ?_) | (with_reducible refine' w_unl ?_) | (with_reducible refine' w_chain ?_)
  | ((with_reducible refine' tr_adr ?hm ?_); (case hm => walk_at "mm")))
local macro_rules | `(tactic| walk_at "dm") => `(tactic| repeat (first | walk_at "dw" | walk_at "dx" | walk_at "dt" | walk_at "d0" | walk_at "dy" | walk_at "dz"))
local macro_rules | `(tactic| walk_at "dl") => `(tactic| repeat (first | walk_at "dw" | walk_at "dx" | walk_at "dt" | walk_at "d0" | walk_at "dy" | walk_at "dz" | (with_reducible refine' es_seq ?_)))
local macro_rules | `(tactic| walk_at "go") => `(tactic| ((try dsimp only [L2.cxOf, L2.Cx.nox, L2.Cx.wish]); walk_at "dl"))

namespace K01
section
variable {P : Program} {w : World} {K : PySem.W.Frag} {mg : Str → Option Value} {base : Heap} {Co Cf : Addr}
abbrev s_pack : Stmt := top 18
theorem sc_pack : FnScope ["data", "found", "left", "one"] ["data"] (defScope s_pack) := ⟨rfl, rfl, rfl, by decide +kernel, rfl, by decide +kernel, by decide +kernel⟩
theorem updM_pqp {M : MM} {p q : Addr} {a b c : MO} (h : p ≠ q) : updM (updM (updM M p a) q b) p c = updM (updM M p c) q b := by
  funext z
  by_cases h2 : z = p
  · subst h2
    rw [updM_same, updM_ne h, updM_same]
  · rw [updM_ne h2]
    by_cases h1 : z = q
    · subst h1
      rw [updM_same, updM_same]
    · rw [updM_ne h1, updM_ne h1, updM_ne h2, updM_ne h2]
theorem updM_pqpq {M : MM} {p q : Addr} {a b c d : MO} (h : p ≠ q) : updM (updM (updM (updM M p a) q b) p c) q d = updM (updM M p c) q d := by
  funext z
  by_cases h1 : z = q
  · subst h1
    rw [updM_same, updM_same]
  · rw [updM_ne h1, updM_ne h1]
    by_cases h2 : z = p
    · subst h2
      rw [updM_same, updM_same]
    · rw [updM_ne h2, updM_ne h2, updM_ne h1, updM_ne h2]
theorem dropLast_rev {α : Type} (xs : List α) {j : Nat} (h : j < xs.length) : ((xs.drop j).reverse).dropLast = (xs.drop (j + 1)).reverse := by
  rw [List.drop_eq_getElem_cons h, List.reverse_cons, List.dropLast_concat]
theorem last_rev {α : Type} (xs : List α) {j : Nat} (h : j < xs.length) : ((xs.drop j).reverse)[((xs.drop j).reverse).length - 1]? = some xs[j] := by
  rw [← List.getLast?_eq_getElem?, List.drop_eq_getElem_cons h, List.reverse_cons, List.getLast?_concat]
def T_pack : DSp := fun ds M R => (∃ x : It, ds = [x.d] ∧ x.ok ∧ ∀ M', Inc M M' → R (dI x.enc) M') ∨
  ∃ xs : List It, ds = [.tup (xs.map It.d)] ∧ (∀ x ∈ xs, x.ok) ∧ xs.length ≤ 65535 ∧ (encs xs).length ≤ 1000000 ∧ ∀ M', Inc M M' → R (dI (many xs.length ++ encs xs)) M'
theorem It.ty (x : It) : (tyN x.d == "?") = false ∧ kitB (tyN x.d) "tuple" = some false := by
  cases x with
  | non => dsimp only [It.d, tyN]; decide +kernel
  | num neg os => dsimp only [It.d, tyN]; decide +kernel
  | txt cs => dsimp only [It.d, tyN]; decide +kernel
theorem It.enc_le {x : It} (h : x.ok) : x.enc.length ≤ 100000 := by
  cases x with
  | non => simp [It.enc]
  | num neg os => have := h.2.1; simp [It.enc]; omega
  | txt cs => have := h.1; simp [It.enc, lowI_len]; omega
theorem enc_len_le {xs : List It} {j : Nat} (h : j < xs.length) : (encs (xs.take j)).length + xs[j].enc.length ≤ (encs xs).length := by
  have : xs = xs.take j ++ (xs[j] :: xs.drop (j + 1)) := by rw [← List.drop_eq_getElem_cons h, List.take_append_drop]
  conv => rhs; rw [this, encs_append, encs_cons]
  simp only [List.length_append]
  omega
theorem d_pack (T : Tx K mg Co Cf) (F : Dl K mg "pack" s_pack) (G_low_octets : Df P w K mg base 1 "low_octets" 2 T_low_octets) (G_pack_plain : Df P w K mg base 2 "pack_plain" 1 T_pack_plain) : Df P w K mg base 3 "pack" 1 T_pack := by
  refine F.ok sc_pack (fun ds M R h => by rcases h with ⟨_, e, _⟩ | ⟨_, e, _⟩ <;> (rw [e]; rfl)) (fun _ _ _ _ _ _ us hl => match us, hl with | [_], _ => rfl) fun f cdv A outer s H E hr => ⟨_, (pss_cons (ps_set (i := 1) sc_pack.nd rfl (by first | exact Or.inl rfl | exact Or.inr rfl) (pe_lstM pa_nil))
      (pss_cons (ps_set (i := 2) sc_pack.nd rfl (by first | exact Or.inl rfl | exact Or.inr rfl) (pe_lstM (pa_cons (pv 0) pa_nil)))
      (pss_cons (ps_while PassesOwn.never (pt_tru (pv 2))
      (pss_cons (ps_set (i := 3) sc_pack.nd rfl (by first | exact Or.inl rfl | exact Or.inr rfl) (pe_bm0 PySem.F.plainAttrs_list PySem.F.slot_list_pop PySem.F.type_list_pop mt_pop (pv 2)))
      (pss_one (ps_if (pt_val (pe_callB call_isi (by rfl) T.isinstance (by decide +kernel) (pa_cons (pv 3) (pa_cons (pe_bltn (v := .ty "tuple") (by rfl) T.tuple (by decide +kernel) rfl) pa_nil))))
      (pss_cons (ps_expr (pe_bm PySem.F.plainAttrs_list PySem.F.slot_list_extend PySem.F.type_list_extend mt_extend (pv 1) (pa_cons (pe_op op_cat (pe_lst (pa_cons (pe_cst (v := .int 4) (by rfl) T.c_MANY) pa_nil)) (pe_callD G_low_octets (hr.mono (by decide)) (by rfl) (pa_cons (pe_callB call_len_seq (by rfl) T.len (by decide +kernel) (pa_cons (pv 3) pa_nil)) (pa_cons pe_int pa_nil)))) pa_nil)))
      (pss_one (ps_expr (pe_bm PySem.F.plainAttrs_list PySem.F.slot_list_extend PySem.F.type_list_extend mt_extend (pv 2) (pa_cons (pe_listRev rfl (by rfl) T.list (by rfl) T.reversed (pv 3)) pa_nil)))))
      (pss_one (ps_expr (pe_bm PySem.F.plainAttrs_list PySem.F.slot_list_extend PySem.F.type_list_extend mt_extend (pv 1) (pa_cons (pe_callD G_pack_plain (hr.mono (by decide)) (by rfl) (pa_cons (pv 3) pa_nil)) pa_nil))))))))
      (pss_one (ps_ret (pvF 1))))))
   , ?_⟩
  rintro ds M R (⟨x, rfl, hx, hR⟩ | ⟨xs, rfl, hx, hn, hl, hR⟩)
  · have hlx : x.enc.length ≤ 100000 := It.enc_le hx
    walk_at "go"
    intro p hp
    have hp : M p = none := hp
    walk_at "dl"
    intro q hq
    have hq : updM M p (.lst []) q = none := hq
    have hpq : p ≠ q := mm_ne updM_same hq
    have hqM : M q = none := by rw [updM_ne (Ne.symm hpq)] at hq; exact hq
    walk_at "dl"
    refine es_while (fun m s' => (m = 1 ∧ s' = ⟨[some x.d, some (.adr p), some (.adr q), none], updM (updM M p (.lst [])) q (.lst [x.d])⟩) ∨ (m = 0 ∧ s' = ⟨[some x.d, some (.adr p), some (.adr q), some x.d], updM (updM M p (.lst (x.enc.map .int))) q (.lst [])⟩)) 1 (.inl ⟨rfl, rfl⟩) ?_
    rintro m _ (⟨rfl, rfl⟩ | ⟨rfl, rfl⟩)
    · walk_at "dl"
      refine br_true ?_
      walk_at "dl"
      refine ⟨_, rfl, ?_⟩
      walk_at "dl"
      refine is_no x.ty ?_
      walk_at "dl"
      refine ⟨x, rfl, hx, ?_⟩
      walk_at "dl"
      refine ⟨0, by omega, .inr ⟨rfl, ?_⟩⟩
      try rw [updM_updM]
      first | rw [updM_pqpq hpq] | rw [updM_pqp hpq]
      rfl
    · walk_at "dl"
      refine ⟨(fun z => by cases z), fun _ => ?_⟩
      walk_at "dl"
      exact hR _ (Inc.del (Inc.upd (Inc.upd (Inc.refl M) hp) hqM) hp)
  · walk_at "go"
    intro p hp
    have hp : M p = none := hp
    walk_at "dl"
    intro q hq
    have hq : updM M p (.lst []) q = none := hq
    have hpq : p ≠ q := mm_ne updM_same hq
    have hqM : M q = none := by rw [updM_ne (Ne.symm hpq)] at hq; exact hq
    walk_at "dl"
    refine es_while (fun m s' => (m = xs.length + 1 ∧ s' = ⟨[some (.tup (xs.map It.d)), some (.adr p), some (.adr q), none], updM (updM M p (.lst [])) q (.lst [.tup (xs.map It.d)])⟩) ∨
      ∃ (j : Nat) (x : Option D), j ≤ xs.length ∧ m = xs.length - j ∧ s' = ⟨[some (.tup (xs.map It.d)), some (.adr p), some (.adr q), x], updM (updM M p (.lst ((many xs.length ++ encs (xs.take j)).map .int))) q (.lst (((xs.map It.d).drop j).reverse))⟩) (xs.length + 1) (.inl ⟨rfl, rfl⟩) ?_
    rintro m _ (⟨rfl, rfl⟩ | ⟨j, y, hj, rfl, rfl⟩)
    · walk_at "dl"
      refine ⟨fun _ => ?_, fun z => by cases z⟩
      walk_at "dl"
      refine ⟨_, rfl, ?_⟩
      walk_at "dl"
      refine ⟨_, 2, rfl, by decide, ?_⟩
      walk_at "dl"
      rw [List.length_map]
      refine sc (by simp [lowI_len, sizeLine_eq]) ?_
      walk_at "dl"
      refine sc (by simp [lowI_len, sizeLine_eq]) ?_
      walk_at "dl"
      refine sc (by simp [sizeLine_eq]; omega) ?_
      walk_at "dl"
      refine ⟨xs.length, by omega, .inr ⟨0, some (.tup (xs.map It.d)), Nat.zero_le _, rfl, ?_⟩⟩
      rw [List.length_map]
      try rw [updM_updM]
      first | rw [updM_pqpq hpq] | rw [updM_pqp hpq]
      rfl
    · walk_at "dl"
      by_cases hjl : j < xs.length
      · have hjl2 : j < (xs.map It.d).length := by rw [List.length_map]; exact hjl
        have hne : (((xs.map It.d).drop j).reverse.isEmpty) = false := by
          rw [List.isEmpty_eq_false_iff, List.ne_nil_iff_length_pos]
          simp
          omega
        rw [hne]
        refine ⟨fun _ => ?_, fun z => by cases z⟩
        have hxj := hx xs[j] (List.getElem_mem hjl)
        have hle := enc_len_le hjl
        have hlx := It.enc_le hxj
        walk_at "dl"
        refine ⟨xs[j].d, by rw [last_rev _ hjl2, List.getElem_map], ?_⟩
        rw [dropLast_rev _ hjl2]
        walk_at "dl"
        refine is_no (It.ty _) ?_
        walk_at "dl"
        refine ⟨xs[j], rfl, hxj, ?_⟩
        walk_at "dl"
        refine sc (by simp [many, lowI_len, sizeLine_eq]; omega) ?_
        walk_at "dl"
        refine ⟨xs.length - (j + 1), by omega, .inr ⟨j + 1, some xs[j].d, hjl, rfl, ?_⟩⟩
        have e : (many xs.length ++ encs (xs.take j)).map D.int ++ xs[j].enc.map D.int = (many xs.length ++ encs (xs.take (j + 1))).map D.int := by
          rw [List.take_add_one, List.getElem?_eq_getElem hjl, encs_append, ← List.map_append, List.append_assoc]
          simp [encs]
        rw [e]
        try rw [updM_updM]
        first | rw [updM_pqpq hpq] | rw [updM_pqp hpq]
      · obtain rfl : j = xs.length := by omega
        have e : ((xs.map It.d).drop xs.length).reverse = [] := by rw [List.drop_of_length_le (by simp)]; rfl
        rw [e]
        refine ⟨(fun z => by cases z), fun _ => ?_⟩
        walk_at "dl"
        rw [List.take_length]
        exact hR _ (Inc.del (Inc.upd (Inc.upd (Inc.refl M) hp) hqM) hp)
abbrev s_need : Stmt := top 19
theorem sc_need : FnScope ["octets", "at", "count"] ["octets", "at", "count"] (defScope s_need) := ⟨rfl, rfl, rfl, by decide +kernel, rfl, by decide +kernel, by decide +kernel⟩
def T_need (Co : Addr) : DSpX := fun ds M R RX => ∃ (os : List Int) (a c : Nat), ds = [dI os, .int (a : Int), .int (c : Int)] ∧ (os.length < a + c → RX ⟨.ref Co, none⟩ M) ∧ (a + c ≤ os.length → R (dI ((os.drop a).take c)) M)
theorem d_need (T : Tx K mg Co Cf) (F : Dl K mg "need" s_need) : DfX P w K mg base 1 "need" 3 (T_need Co) := by
  refine F.okX sc_need (fun ds M R RX ⟨_, _, _, e, _⟩ => by rw [e]; rfl) (fun _ _ _ _ _ _ us hl => match us, hl with | [_, _, _], _ => rfl) fun f cdv A outer s H E hr => ⟨_, (pss_cons (ps_if (pt_cmpR op_gt (pe_op op_add (pv 1) (pv 2)) (pe_callB call_len_seq (by rfl) T.len (by decide +kernel) (pa_cons (pv 0) pa_nil)) (nomark _))
      (pss_one (ps_raiseD PySem.F.excBase_ValueError (takes_of rfl rfl rfl rfl) T.x_Malformed.q T.x_Malformed.g T.x_Malformed.k T.x_Malformed.r))
      pss_nil)
      (pss_one (ps_ret (pe_slice sl_list (pv 0) (po_some (pv 1)) (po_some (pe_op op_add (pv 1) (pv 2)))))))
   , ?_⟩
  rintro ds M R RX ⟨os, a, c, rfl, hx, hR⟩
  walk_at "go"
  rw [List.length_map]
  refine br_dec (fun h => ?_) (fun h => ?_)
  · walk_at "dl"
    exact hx (by omega)
  · walk_at "dl"
    rw [cutI_nn os (by omega) (by omega) (by omega), Int.toNat_natCast, show ((a : Int) + (c : Int) - (a : Int)).toNat = c by omega]
    exact hR (by omega)
abbrev s_sign_of : Stmt := top 21
theorem sc_sign_of : FnScope ["code"] ["code"] (defScope s_sign_of) := ⟨rfl, rfl, rfl, by decide +kernel, rfl, by decide +kernel, by decide +kernel⟩
def signD (c : Int) : D := if okSign c.toNat = true then sgn c.toNat else .non
theorem sg_at : ∀ c, c < 127 → 32 ≤ c → c ≠ 37 → SG.cps.toList[c - 32 - (if 37 < c then 1 else 0)]? = some c := by decide +kernel
theorem sg_len : SG.length = 94 := by decide +kernel
def T_sign_of : DSp := fun ds M R => ∃ c : Int, ds = [.int c] ∧ 0 ≤ c ∧ c < 256 ∧ R (signD c) M
theorem d_sign_of (T : Tx K mg Co Cf) (F : Dl K mg "sign_of" s_sign_of) : Df P w K mg base 1 "sign_of" 1 T_sign_of := by
  refine F.ok sc_sign_of (fun ds M R ⟨_, e, _⟩ => by rw [e]; rfl) (fun _ _ _ _ _ _ us hl => match us, hl with | [_], _ => rfl) fun f cdv A outer s H E hr => ⟨_, (pss_cons (ps_if (pt_cmpR op_eq (pv 0) (pe_cst (v := .int 10) (by rfl) T.c_LINE_END) (nomark _))
      (pss_one (ps_ret pe_str))
      pss_nil)
      (pss_cons (ps_if (PW.pt (pw_or (pt_cmpR op_eq (pv 0) (pe_cst (v := .int 37) (by rfl) T.c_BARRED) (nomark _)) (pw_or1 (pt_not (pt_chain op_le op_le pe_int (pv 0) pe_int)))))
      (pss_one (ps_ret pe_non))
      pss_nil)
      (pss_one (ps_ret (pe_ix ix_str (pe_cst (v := .str SG) (by rfl) T.c_SIGNS) (pe_op op_sub (pe_op op_sub (pv 0) pe_int) (pe_callTy call_int1 (by rfl) T.int (by decide +kernel) (pa_cons (pe_cmpR op_gt (pv 0) (pe_cst (v := .int 37) (by rfl) T.c_BARRED) (nomark _)) pa_nil))) (fun _ _ => rfl))))))
   , ?_⟩
  rintro ds M R ⟨c, rfl, h0, h1, hR⟩
  obtain ⟨c, rfl⟩ : ∃ n : Nat, c = n := ⟨c.toNat, by omega⟩
  unfold signD okSign at hR
  rw [Int.toNat_natCast] at hR
  walk_at "go"
  refine br_dec (fun h => ?_) (fun h => ?_)
  · obtain rfl : c = 10 := by omega
    walk_at "dl"
    exact hR
  walk_at "dl"
  refine br_dec (fun h2 => ?_) (fun h2 => ?_)
  · walk_at "dl"
    rw [if_neg (by simp; omega)] at hR
    exact hR
  walk_at "dl"
  refine br_dec (fun h3 => ?_) (fun h3 => ?_)
  · walk_at "dl"
    by_cases h4 : c ≤ 126
    · rw [if_pos (by simp; omega)] at hR
      refine br_pos (by omega) ?_
      walk_at "dl"
      have := sg_at c (by omega) (by omega) (by omega)
      refine ⟨c, ⟨by have := sg_len; rw [sizeLine_eq]; show SG.length ≤ _; omega, ?_⟩, ?_⟩
      · rw [← this]
        by_cases h5 : 37 < c
        · rw [if_pos (decide_eq_true (by omega)), if_pos h5, show (c : Int) - 32 - 1 = ((c - 32 - 1 : Nat) : Int) by omega]
          rw [if_pos h5] at this
          exact (atI_nat this).trans this.symm
        · rw [if_neg (by rw [decide_eq_true_eq]; omega), if_neg h5, show (c : Int) - 32 - 0 = ((c - 32 - 0 : Nat) : Int) by omega]
          rw [if_neg h5] at this
          exact (atI_nat this).trans this.symm
      walk_at "dl"
      exact hR
    · rw [if_neg (by simp; omega)] at hR
      refine br_neg (by omega) ?_
      walk_at "dl"
      exact hR
  · walk_at "dl"
    rw [if_neg (by simp; omega)] at hR
    exact hR
end
end K01

end

section
open PySem L2 Evl DL
local macro_rules | `(tactic| walk_at "blk") => `(tactic| first | exact rfl | (dsimp only [L2.Cx.blk, L2.Cx.tr, L2.Cx.suite, L2.Cx.nox, L2.cxOf, L2.Cx.wish]; done) | (dsimp only [L2.Cx.blk, L2.Cx.tr, L2.Cx.suite, L2.Cx.nox, L2.cxOf, L2.Cx.wish]; exact rfl))
local macro_rules | `(tactic| walk_at "nrm") => `(tactic| dsimp only [startD, List.map_cons, List.map_nil, List.length_cons, List.length_nil, List.replicate, List.set_cons_zero, List.set_cons_succ, List.cons_append, List.nil_append, Nat.reduceAdd, Nat.reduceSub, wipeD])
local macro_rules | `(tactic| walk_at "mm") => `(tactic| first | assumption | exact updM_same | (refine updM_get ?_ ?_ <;> first | assumption | (apply Ne.symm; assumption) | walk_at "mm"))
local macro_rules | `(tactic| walk_at "side") => `(tactic| first | omega | (simp only [List.length_cons, List.length_nil]; done) | (simp only [List.length_cons, List.length_nil, List.length_append, List.length_map, sizeLine_eq]; omega) | exact Or.inr ⟨by omega, by omega⟩ | exact Or.inl ⟨by omega, by omega⟩ | exact And.intro (by omega) (by omega) | exact And.intro (by omega) (And.intro (by omega) (by decide)))
local macro_rules | `(tactic| walk_at "d0") => `(tactic| first
  | ((with_reducible first | show Pd.nx _ _ | show Pd.bk _ _ | show Pd.ct _ _ | show Pd.rt _ _ _); walk_at "nrm")
  | (with_reducible refine' es_set ?_) | (with_reducible refine' es_drop ?_) | (with_reducible refine' es_ret ?_) | (with_reducible refine' w_if ?_) | (with_reducible refine' es_next ?_) | (with_reducible refine' es_break ?_) | (with_reducible refine' es_cont ?_) | (with_reducible refine' es_retN ?_) | (with_reducible refine' es_asg ?_) | (with_reducible refine' es_for ?_) | ((with_reducible refine' w_aug ?hh ?_); (case hh => exact rfl)))
local macro_rules | `(tactic| walk_at "dx") => `(tactic| first
  | ((with_reducible refine' ed_var ?hh ?_); (case hh => exact rfl)) | ((with_reducible refine' w_varF ?hh ?hm ?_); (case hh => exact rfl); (case hm => walk_at "mm"))
  | (with_reducible refine' w_int ?_) | (with_reducible refine' w_str ?_) | (with_reducible refine' w_bl ?_) | (with_reducible refine' w_non ?_) | (with_reducible refine' w_add ?_) | (with_reducible refine' w_sub ?_) | (with_reducible refine' w_mul ?_) | (with_reducible refine' w_mulW ?_) | (with_reducible refine' w_mod ?_) | (with_reducible refine' w_fdiv ?_) | (with_reducible refine' w_fdivW ?_) | (with_reducible refine' w_pow ?_) | (with_reducible refine' w_neg ?_) | (with_reducible refine' w_lt ?_) | (with_reducible refine' w_le ?_) | (with_reducible refine' w_gt ?_) | (with_reducible refine' w_ge ?_) | (with_reducible refine' w_eq ?_) | (with_reducible refine' w_ne ?_) | (with_reducible refine' w_isN ?_) | (with_reducible refine' w_notN ?_) | (with_reducible refine' w_andV ?_) | (with_reducible refine' w_orV ?_) | (with_reducible refine' w_notV ?_) | (with_reducible refine' w_ife ?_) | (with_reducible refine' w_lst ?_) | (with_reducible refine' w_lstM ?_) | (with_reducible refine' w_tup ?_) | (with_reducible refine' w_ixL ?_) | (with_reducible refine' w_ixT ?_) | (with_reducible refine' w_slL ?_) | (with_reducible refine' w_cat ?_) | (with_reducible refine' w_len ?_) | (with_reducible refine' w_list ?_) | (with_reducible refine' w_app ?_) | (with_reducible refine' w_ext ?_) | (with_reducible refine' w_pop ?_) | (with_reducible refine' w_call ?_) | (with_reducible refine' w_eqD ?_) | (with_reducible refine' w_neD ?_))
local macro_rules | `(tactic| walk_at "dt") => `(tactic| first
  | (with_reducible refine' w_test ?_) | (with_reducible refine' w_B ?_) | (with_reducible refine' w_and ?_) | (with_reducible refine' w_or ?_) | (with_reducible refine' w_not ?_) | (with_reducible refine' et_yes ?_) | (with_reducible refine' ea_nil ?_) | (with_reducible refine' ea_cons ?_) | (with_reducible refine' eo_none ?_) | (with_reducible refine' w_part ?_) | (with_reducible refine' eg_name ?_) | (with_reducible refine' w_setM ?_) | (with_reducible refine' w_tupT ?_) | (with_reducible refine' egs_nil ?_) | (with_reducible refine' egs_cons ?_) | (with_reducible refine' w_iL ?_) | (with_reducible refine' w_iT ?_) | (with_reducible refine' w_iR1 ?_) | (with_reducible refine' w_iR2 ?_) | (with_reducible refine' w_iRev ?_))
local macro_rules | `(tactic| walk_at "dw") => `(tactic| first
  | (with_reducible refine' i1 ?_) | (with_reducible refine' i2 ?_) | (with_reducible refine' s1 ?_) | (with_reducible refine' s2 ?_) | (with_reducible refine' b1 ?_) | (with_reducible refine' l1_lst ?_) | (with_reducible refine' l1_frz ?_) | (with_reducible refine' l1_tup ?_) | (with_reducible refine' ll1_lst ?_) | (with_reducible refine' ll1_frz ?_) | (with_reducible refine' f1_lst ?_) | (with_reducible refine' f1_frz ?_) | (with_reducible refine' t1 ?_) | (with_reducible refine' n1 ?_) | (with_reducible refine' e2_int ?_) | (with_reducible refine' e2_str ?_) | (with_reducible refine' e2_bl ?_) | (with_reducible refine' br_not ?_) | (with_reducible refine' br_true ?_) | (with_reducible refine' br_false ?_)
  | ((with_reducible refine' sc ?hh ?_); (case hh => walk_at "side")) | ((with_reducible refine' l1_adr ?hm ?_); (case hm => walk_at "mm")) | ((with_reducible refine' ll1_adr ?hm ?_); (case hm => walk_at "mm")) | ((with_reducible refine' m1 ?hm ?_); (case hm => walk_at "mm")) | ((with_reducible refine' g1 ?hm ?_); (case hm => walk_at "mm"))
  | ((with_reducible refine' br_pos ?hh ?_); (case hh => omega)) | ((with_reducible refine' br_neg ?hh ?_); (case hh => omega)))
local macro_rules | `(tactic| walk_at "dy") => `(tactic| first
  | (with_reducible refine' w_raise ?_) | (with_reducible refine' w_isI ?_) | (with_reducible refine' w_gtD ?_) | (with_reducible refine' w_ltD ?_) | (with_reducible refine' w_leD ?_) | (with_reducible refine' w_geD ?_) | (with_reducible refine' w_mulS ?_) | (with_reducible refine' w_addS ?_) | (with_reducible refine' w_catT ?_) | (with_reducible refine' w_max2 ?_) | (with_reducible refine' w_min2 ?_) | (with_reducible refine' w_intX ?_) | (with_reducible refine' w_slM ?_) | (with_reducible refine' w_iR3 ?_) | (with_reducible refine' bn_non ?_) | (with_reducible refine' bn_int ?_) | (with_reducible refine' bn_str ?_) | (with_reducible refine' bn_bl ?_) | (with_reducible refine' bn_lst ?_) | (with_reducible refine' bn_frz ?_) | (with_reducible refine' bn_tup ?_) | (with_reducible refine' bn_adr ?_) | (with_reducible refine' ib_int ?_) | (with_reducible refine' ib_bl ?_) | (with_reducible refine' i3 ?_) | (with_reducible refine' DL.s2 ?_)
  | ((with_reducible refine' is_yes ?hh ?_); (case hh => (dsimp only [tyN]; decide +kernel))) | ((with_reducible refine' is_no ?hh ?_); (case hh => (dsimp only [tyN]; decide +kernel))))
local macro_rules | `(tactic| walk_at "dz") => `(tactic| first
  | (with_reducible refine' es_nextE ?_) | (with_reducible refine' w_tru ?_) | (with_reducible refine' tr_lst ?_) | (with_reducible refine' tr_frz ?_) | (with_reducible refine' tr_tup ?_) | (with_reducible refine' tr_bl ?_) | (with_reducible refine' tr_non ?_) | (with_reducible refine' tr_int ?_) | (with_reducible refine' w_inS ?_) | (with_reducible refine' w_ninS ?_) | (with_reducible refine' w_iS ?_) | (with_reducible refine' w_ordc ?_) | (with_reducible refine' w_abs ?_) | (with_reducible refine' w_lenS ?_) | (with_reducible refine' w_ixS ?_) | (with_reducible refine' w_join ?_) | (with_reducible refine' w_tupOf ?_) | (with_reducible refine' w_listRev ?_) | (with_reducible refine' w_unl ?_) | (with_reducible refine' w_chain ?_)
  | ((with_reducible refine' tr_adr ?hm ?_); (case hm => walk_at "mm")))
local macro_rules | `(tactic| walk_at "dm") => `(tactic| repeat (first | walk_at "dw" | walk_at "dx" | walk_at "dt" | walk_at "d0" | walk_at "dy" | walk_at "dz"))
local macro_rules | `(tactic| walk_at "dl") => `(tactic| repeat (first | walk_at "dw" | walk_at "dx" | walk_at "dt" | walk_at "d0" | walk_at "dy" | walk_at "dz" | (with_reducible refine' es_seq ?_)))
local macro_rules | `(tactic| walk_at "go") => `(tactic| ((try dsimp only [L2.cxOf, L2.Cx.nox, L2.Cx.wish]); walk_at "dl"))

namespace K01
section
variable {P : Program} {w : World} {K : PySem.W.Frag} {mg : Str → Option Value} {base : Heap} {Co Cf : Addr}
theorem Oct.drop {os : List Int} (h : Oct os) (n : Nat) : Oct (os.drop n) := fun o ho => h o (List.mem_of_mem_drop ho)
theorem Oct.take {os : List Int} (h : Oct os) (n : Nat) : Oct (os.take n) := fun o ho => h o (List.mem_of_mem_take ho)
theorem drop_two {α : Type} {os r : List α} {at_ : Nat} {a b : α} (h : os.drop at_ = a :: b :: r) : at_ + 2 ≤ os.length ∧ os[at_]? = some a ∧ os[at_ + 1]? = some b ∧ os.drop (at_ + 1) = b :: r ∧ os.drop (at_ + 2) = r := by
  have hl := congrArg List.length h
  rw [List.length_drop] at hl
  simp only [List.length_cons] at hl
  refine ⟨by omega, ?_, ?_, ?_, ?_⟩
  · have := congrArg (fun l => l[0]?) h
    simpa using this
  · have := congrArg (fun l => l[1]?) h
    simpa using this
  · rw [← List.drop_drop, h]; rfl
  · rw [← List.drop_drop, h]; rfl
abbrev s_unpack_number : Stmt := top 20
theorem sc_unpack_number : FnScope ["octets", "at", "size", "number"] ["octets", "at"] (defScope s_unpack_number) := ⟨rfl, rfl, rfl, by decide +kernel, rfl, by decide +kernel, by decide +kernel⟩
/-- of a number's kind -/
def T_unpack_number (Co : Addr) : DSpX := fun ds M R RX => ∃ (os : List Int) (a : Nat) (k : Int) (r : List Int), ds = [dI os, .int (a : Int)] ∧ Oct os ∧ os.length ≤ 1000000 ∧ os.drop a = k :: r ∧ (k = 1 ∨ k = 2) ∧
  (unP (k :: r) = none → RX ⟨.ref Co, none⟩ M) ∧ (∀ d n, unP (k :: r) = some (d, n) → R (.tup [d, .int ((a + n : Nat) : Int)]) M)
theorem d_unpack_number (T : Tx K mg Co Cf) (F : Dl K mg "unpack_number" s_unpack_number) (G_need : DfX P w K mg base 1 "need" 3 (T_need Co)) (G_number_of : Df P w K mg base 1 "number_of" 1 T_number_of) : DfX P w K mg base 2 "unpack_number" 2 (T_unpack_number Co) := by
  refine F.okX sc_unpack_number (fun ds M R RX ⟨_, _, _, _, e, _⟩ => by rw [e]; rfl) (fun _ _ _ _ _ _ us hl => match us, hl with | [_, _], _ => rfl) fun f cdv A outer s H E hr => ⟨_, (pss_cons (ps_set (i := 2) sc_unpack_number.nd rfl (by first | exact Or.inl rfl | exact Or.inr rfl) (pe_ix ix_list (pe_callX G_need (hr.mono (by decide)) (takes_of rfl rfl rfl rfl) (by rfl) (pa_cons (pv 0) (pa_cons (pe_op op_add (pv 1) pe_int) (pa_cons pe_int pa_nil)))) pe_int (fun _ _ => rfl)))
      (pss_cons (ps_set (i := 3) sc_unpack_number.nd rfl (by first | exact Or.inl rfl | exact Or.inr rfl) (pe_callD G_number_of (hr.mono (by decide)) (by rfl) (pa_cons (pe_callX G_need (hr.mono (by decide)) (takes_of rfl rfl rfl rfl) (by rfl) (pa_cons (pv 0) (pa_cons (pe_op op_add (pv 1) pe_int) (pa_cons (pv 2) pa_nil)))) pa_nil)))
      (pss_cons (ps_if (PW.pt (pw_or (PW.pt (pw_and (pt_cmpR op_gt (pv 2) pe_int (nomark _)) (pw_and1 (pt_cmpR op_eq (pe_ix ix_list (pv 0) (pe_op op_add (pe_op op_add (pv 1) pe_int) (pv 2)) (fun _ _ => rfl)) pe_int (nomark _))))) (pw_or1 (PW.pt (pw_and (pt_cmpR op_eq (pe_ix ix_list (pv 0) (pv 1) (fun _ _ => rfl)) (pe_cst (v := .int 2) (by rfl) T.c_MINUS) (nomark _)) (pw_and1 (pt_cmpR op_eq (pv 3) pe_int (nomark _))))))))
      (pss_one (ps_raiseD PySem.F.excBase_ValueError (takes_of rfl rfl rfl rfl) T.x_Malformed.q T.x_Malformed.g T.x_Malformed.k T.x_Malformed.r))
      pss_nil)
      (pss_one (ps_ret (pe_tup (pa_cons (pe_ifExp (pt_cmpR op_eq (pe_ix ix_list (pv 0) (pv 1) (fun _ _ => rfl)) (pe_cst (v := .int 2) (by rfl) T.c_MINUS) (nomark _)) (pe_un un_neg (pv 3)) (pv 3)) (pa_cons (pe_op op_add (pe_op op_add (pv 1) pe_int) (pv 2)) pa_nil))))))))
   , ?_⟩
  rintro ds M R RX ⟨os, a, k, r, rfl, ho, hl, hd, hk, hx, hR⟩
  have hk0 : k ≠ 0 := by omega
  have hal : a < os.length := by
    have := congrArg List.length hd
    rw [List.length_drop] at this
    simp only [List.length_cons] at this
    omega
  have hda : os[a]? = some k := by
    have := congrArg (fun l => l[0]?) hd
    simpa using this
  have hd1 : os.drop (a + 1) = r := by rw [← List.drop_drop, hd]; rfl
  walk_at "go"
  refine w_callX ?_
  walk_at "dl"
  refine ⟨os, a + 1, 1, rfl, fun h => hx ?_, fun h => ?_⟩
  · have : r = [] := List.eq_nil_of_length_eq_zero (by have := congrArg List.length hd1; rw [List.length_drop] at this; omega)
    subst this
    simp [unP, hk0, hk]
  obtain ⟨z, q, rfl⟩ : ∃ z q, r = z :: q := by
    cases r with
    | nil =>
      have := congrArg List.length hd1
      rw [List.length_drop] at this
      simp at this
      omega
    | cons z q => exact ⟨z, q, rfl⟩
  rw [hd1]
  have hz := ho z (List.mem_of_mem_drop (i := a + 1) (by rw [hd1]; exact List.mem_cons_self))
  obtain ⟨n, rfl⟩ : ∃ n : Nat, z = n := ⟨z.toNat, by omega⟩
  have hq : os.drop (a + 2) = q := by rw [show a + 2 = a + 1 + 1 from rfl, ← List.drop_drop, hd1]; rfl
  have hql : q.length = os.length - (a + 2) := by rw [← hq, List.length_drop]
  have hoq : Oct q := by rw [← hq]; exact ho.drop _
  walk_at "dl"
  refine at1o 0 rfl rfl ?_
  walk_at "dl"
  refine w_callX ?_
  walk_at "dl"
  refine ⟨os, a + 2, n, rfl, fun h => hx ?_, fun h => ?_⟩
  · simp [unP, hk0, hk, hql]
    omega
  rw [hq]
  walk_at "dl"
  refine ⟨q.take n, rfl, ?_⟩
  have hm0 := numOf_nonneg (hoq.take n)
  have hu : unP (k :: (n : Int) :: q) = if (0 < (n : Int) ∧ q[n - 1]? = some 0) ∨ (k = 2 ∧ numOf (q.take n) = 0) then none else some (.int (if k = 2 then -numOf (q.take n) else numOf (q.take n)), 2 + n) := by
    simp [unP, hk0, hk, hql]
    omega
  rw [hu] at hx hR
  generalize hm : numOf (q.take n) = m at *
  walk_at "dl"
  have hat : (os.map D.int)[a]? = some (.int k) := by rw [List.getElem?_map, hda]; rfl
  have hret : (¬ ((0 < (n : Int) ∧ q[n - 1]? = some 0) ∨ (k = 2 ∧ m = 0))) → R (.tup [.int (if k = 2 then -m else m), .int ((a + (2 + n) : Nat) : Int)]) M := fun h => hR _ _ (by rw [if_neg h])
  have hraise : ((0 < (n : Int) ∧ q[n - 1]? = some 0) ∨ (k = 2 ∧ m = 0)) → RX ⟨.ref Co, none⟩ M := fun h => hx (by rw [if_pos h])
  have he : ((a : Int) + 2 + (n : Int)) = ((a + (2 + n) : Nat) : Int) := by omega
  refine br_dec (fun h0 => ?_) (fun h0 => ?_)
  · have hnl : n - 1 < q.length := by omega
    have hat2 : (os.map D.int)[a + 1 + n]? = some (.int q[n - 1]) := by
      have e : os[a + 1 + n]? = q[n - 1]? := by rw [← hq, List.getElem?_drop, show a + 2 + (n - 1) = a + 1 + n by omega]
      rw [List.getElem?_map, e, List.getElem?_eq_getElem hnl]
      rfl
    walk_at "dl"
    refine at1o (a + 1 + n) (by omega) hat2 ?_
    walk_at "dl"
    refine br_dec (fun h1 => ?_) (fun h1 => ?_)
    · walk_at "dl"
      exact hraise (.inl ⟨h0, by rw [List.getElem?_eq_getElem hnl, h1]⟩)
    have hno : ¬ (0 < (n : Int) ∧ q[n - 1]? = some 0) := fun z => h1 (by have := z.2; rw [List.getElem?_eq_getElem hnl] at this; exact Option.some.inj this)
    walk_at "dl"
    refine at1n hat ?_
    walk_at "dl"
    refine br_dec (fun h2 => ?_) (fun h2 => ?_)
    · walk_at "dl"
      refine br_dec (fun h3 => ?_) (fun h3 => ?_)
      · walk_at "dl"
        exact hraise (.inr ⟨h2, h3⟩)
      · walk_at "dl"
        refine at1n hat ?_
        walk_at "dl"
        have := hret (fun z => z.elim hno fun z => h3 z.2)
        rw [if_pos h2] at this
        rw [he]
        exact this
    · walk_at "dl"
      refine at1n hat ?_
      walk_at "dl"
      have := hret (fun z => z.elim hno fun z => h2 z.1)
      rw [if_neg h2] at this
      rw [he]
      exact this
  · have hno : ¬ (0 < (n : Int) ∧ q[n - 1]? = some 0) := fun z => h0 z.1
    walk_at "dl"
    refine at1n hat ?_
    walk_at "dl"
    refine br_dec (fun h2 => ?_) (fun h2 => ?_)
    · walk_at "dl"
      refine br_dec (fun h3 => ?_) (fun h3 => ?_)
      · walk_at "dl"
        exact hraise (.inr ⟨h2, h3⟩)
      · walk_at "dl"
        refine at1n hat ?_
        walk_at "dl"
        have := hret (fun z => z.elim hno fun z => h3 z.2)
        rw [if_pos h2] at this
        rw [he]
        exact this
    · walk_at "dl"
      refine at1n hat ?_
      walk_at "dl"
      have := hret (fun z => z.elim hno fun z => h2 z.1)
      rw [if_neg h2] at this
      rw [he]
      exact this
abbrev s_unpack_text : Stmt := top 22
theorem sc_unpack_text : FnScope ["octets", "at", "size", "codes", "signs", "code"] ["octets", "at"] (defScope s_unpack_text) := ⟨rfl, rfl, rfl, by decide +kernel, rfl, by decide +kernel, by decide +kernel⟩
theorem signs_any : ∀ {os : List Int}, ((os.map signD).any fun z => eqS z .non) = !(os.all fun c => okSign c.toNat)
  | [] => rfl
  | c :: os => by
    rw [List.map_cons, List.any_cons, List.all_cons, signs_any]
    unfold signD
    by_cases h : okSign c.toNat = true
    · rw [if_pos h, h]; rfl
    · rw [if_neg h]
      simp only [Bool.not_eq_true] at h
      rw [h]
      rfl
theorem signD_isS (c : Int) : isS (signD c) = true := by
  unfold signD
  split <;> rfl
theorem signs_strs : ∀ {os : List Int}, (os.all fun c => okSign c.toNat) = true → os.map signD = (os.map fun c => (⟨#[c.toNat]⟩ : Str)).map D.str
  | [], _ => rfl
  | c :: os, h => by
    rw [List.all_cons, Bool.and_eq_true] at h
    rw [List.map_cons, List.map_cons, List.map_cons, signs_strs h.2]
    unfold signD
    rw [if_pos h.1]
theorem sum_ones : ∀ q : List Int, (q.map ((fun (x : Str) => x.length) ∘ fun (c : Int) => (⟨#[c.toNat]⟩ : Str))).sum = q.length
  | [] => rfl
  | c :: q => by
    rw [List.map_cons, List.sum_cons, sum_ones q, List.length_cons]
    show 1 + q.length = _
    omega
theorem join_one (cs : List Nat) : Txt.join "" (cs.map fun c => (⟨#[c]⟩ : Str)) = ⟨cs.toArray⟩ := by
  rw [eq_of_beq (PyProof.Rows.join_plain_closes _ _)]
  induction cs with
  | nil => rfl
  | cons c cs ih =>
    cases cs with
    | nil => rfl
    | cons d cs =>
      rw [List.map_cons, List.map_cons, Str.join]
      rw [List.map_cons] at ih
      rw [ih]
      show Str.append (Str.append ⟨#[c]⟩ "") ⟨(d :: cs).toArray⟩ = _
      unfold Str.append
      congr 1
      apply Array.ext'
      simp
      decide +kernel
      intro z
      cases z
def T_unpack_text (Co : Addr) : DSpX := fun ds M R RX => ∃ (os : List Int) (a : Nat) (r : List Int), ds = [dI os, .int (a : Int)] ∧ Oct os ∧ os.length ≤ 1000000 ∧ os.drop a = 3 :: r ∧
  (unP (3 :: r) = none → RX ⟨.ref Co, none⟩ M) ∧ (∀ d n, unP (3 :: r) = some (d, n) → R (.tup [d, .int ((a + n : Nat) : Int)]) M)
theorem d_unpack_text (T : Tx K mg Co Cf) (F : Dl K mg "unpack_text" s_unpack_text) (G_need : DfX P w K mg base 1 "need" 3 (T_need Co)) (G_number_of : Df P w K mg base 1 "number_of" 1 T_number_of) (G_sign_of : Df P w K mg base 1 "sign_of" 1 T_sign_of) : DfX P w K mg base 2 "unpack_text" 2 (T_unpack_text Co) := by
  refine F.okX sc_unpack_text (fun ds M R RX ⟨_, _, _, e, _⟩ => by rw [e]; rfl) (fun _ _ _ _ _ _ us hl => match us, hl with | [_, _], _ => rfl) fun f cdv A outer s H E hr => ⟨_, (pss_cons (ps_set (i := 2) sc_unpack_text.nd rfl (by first | exact Or.inl rfl | exact Or.inr rfl) (pe_callD G_number_of (hr.mono (by decide)) (by rfl) (pa_cons (pe_callX G_need (hr.mono (by decide)) (takes_of rfl rfl rfl rfl) (by rfl) (pa_cons (pv 0) (pa_cons (pe_op op_add (pv 1) pe_int) (pa_cons pe_int pa_nil)))) pa_nil)))
      (pss_cons (ps_set (i := 3) sc_unpack_text.nd rfl (by first | exact Or.inl rfl | exact Or.inr rfl) (pe_callX G_need (hr.mono (by decide)) (takes_of rfl rfl rfl rfl) (by rfl) (pa_cons (pv 0) (pa_cons (pe_op op_add (pv 1) pe_int) (pa_cons (pv 2) pa_nil)))))
      (pss_cons (ps_setLc (i := 4) (own := [("code", 5)]) rfl sc_unpack_text.nd rfl rfl (sw_true rfl rfl rfl (by decide +kernel)) (pi_list (pv 3)) (blkOk_by (N := ["octets", "at", "size", "codes", "signs", "code"]) (sc := defScope s_unpack_text) (by decide +kernel)) (fun _ _ _ _ _ => by (apply PG.cast; (case h => exact (pg_name (i := 5) sc_unpack_text.nd rfl (by first | exact Or.inl rfl | exact Or.inr rfl))); (case q => walk_at "blk"))) (fun _ _ _ _ _ => by (apply PTs.cast; (case h => exact pts_nil); (case q => walk_at "blk"))) (fun _ _ _ _ _ => by (apply PE.cast; (case h => exact (pe_callD G_sign_of (hr.mono (by decide)) (by rfl) (pa_cons (pv 5) pa_nil))); (case q => walk_at "blk"))))
      (pss_cons (ps_if (pt_cmpR op_in_seq pe_non (pv 4) (by rfl))
      (pss_one (ps_raiseD PySem.F.excBase_ValueError (takes_of rfl rfl rfl rfl) T.x_Malformed.q T.x_Malformed.g T.x_Malformed.k T.x_Malformed.r))
      pss_nil)
      (pss_one (ps_ret (pe_tup (pa_cons (pe_join pe_str (pv 4)) (pa_cons (pe_op op_add (pe_op op_add (pv 1) pe_int) (pv 2)) pa_nil)))))))))
   , ?_⟩
  rintro ds M R RX ⟨os, a, r, rfl, ho, hl, hd, hx, hR⟩
  have hdl := congrArg List.length hd
  rw [List.length_drop, List.length_cons] at hdl
  have hd1 : os.drop (a + 1) = r := by rw [← List.drop_drop, hd]; rfl
  have hor : Oct r := by rw [← hd1]; exact ho.drop _
  walk_at "go"
  refine w_callX ?_
  walk_at "dl"
  refine ⟨os, a + 1, 2, rfl, fun h => hx ?_, fun h => ?_⟩
  · simp only [unP]
    rw [if_neg (by decide), if_neg (by decide), if_pos True.intro, if_pos (by omega)]
  rw [hd1]
  have hu : unP (3 :: r) = if (numOf (r.take 2)).toNat ≤ (r.drop 2).length then
          (if ((r.drop 2).take (numOf (r.take 2)).toNat).all (fun c => okSign c.toNat) = true then some (.str ⟨(((r.drop 2).take (numOf (r.take 2)).toNat).map Int.toNat).toArray⟩, 3 + (numOf (r.take 2)).toNat) else none)
        else none := by
    simp only [unP]
    rw [if_neg (by decide), if_neg (by decide), if_pos True.intro, if_neg (by omega)]
  rw [hu] at hx hR
  have hm0 := numOf_nonneg (hor.take 2)
  have hq : os.drop (a + 3) = r.drop 2 := by rw [← hd1, List.drop_drop]
  walk_at "dl"
  refine ⟨r.take 2, rfl, ?_⟩
  generalize numOf (r.take 2) = m at *
  obtain ⟨n, rfl⟩ : ∃ n : Nat, m = n := ⟨m.toNat, by omega⟩
  rw [Int.toNat_natCast] at hx hR
  walk_at "dl"
  refine w_callX ?_
  walk_at "dl"
  refine ⟨os, a + 3, n, rfl, fun h => hx ?_, fun h => ?_⟩
  · rw [if_neg (by rw [← hq, List.length_drop]; omega)]
  rw [hq]
  have hle : n ≤ (r.drop 2).length := by rw [← hq, List.length_drop]; omega
  rw [if_pos hle] at hx hR
  have hoq : Oct ((r.drop 2).take n) := (hor.drop 2).take n
  have hql : ((r.drop 2).take n).length = n := by rw [List.length_take]; omega
  generalize (r.drop 2).take n = q at *
  walk_at "dl"
  refine ed_lcAx (α := Int) D.int signD (wp_name (by decide)) ?_
  walk_at "dl"
  refine ⟨q, rfl, by rw [sizeLine_eq]; omega, fun c hc M' _ => ?_, ?_⟩
  · have := hoq c hc
    walk_at "dl"
    exact ⟨c, rfl, this.1, this.2, rfl, rfl⟩
  walk_at "dl"
  refine sc ⟨rfl, fun z hz => ?_⟩ ?_
  · obtain ⟨c, _, rfl⟩ := List.mem_map.mp hz
    exact signD_isS c
  rw [signs_any]
  walk_at "dl"
  have he : ((a : Int) + 3 + (n : Int)) = ((a + (3 + n) : Nat) : Int) := by omega
  refine ⟨fun hok => ?_, fun hok => ?_⟩
  · rw [if_pos hok] at hR
    rw [signs_strs hok]
    walk_at "dl"
    refine ⟨_, .inl rfl, ?_⟩
    refine sc ?_ ?_
    · rw [List.map_map, List.length_map]
      have : (q.map ((fun (x : Str) => x.length) ∘ fun (c : Int) => (⟨#[c.toNat]⟩ : Str))).sum = q.length := sum_ones q
      rw [this]
      show q.length + q.length * 0 ≤ _
      omega
    walk_at "dl"
    rw [show (q.map fun c => (⟨#[c.toNat]⟩ : Str)) = (q.map Int.toNat).map fun c => (⟨#[c]⟩ : Str) by rw [List.map_map]; rfl, join_one, he]
    exact hR _ _ rfl
  · rw [if_neg (by rw [hok]; exact Bool.false_ne_true)] at hx
    walk_at "dl"
    exact hx rfl
end
end K01

end

section
open PySem L2 Evl DL
local macro_rules | `(tactic| walk_at "blk") => `(tactic| first | exact rfl | (dsimp only [L2.Cx.blk, L2.Cx.tr, L2.Cx.suite, L2.Cx.nox, L2.cxOf, L2.Cx.wish]; done) | (dsimp only [L2.Cx.blk, L2.Cx.tr, L2.Cx.suite, L2.Cx.nox, L2.cxOf, L2.Cx.wish]; exact rfl))
local macro_rules | `(tactic| walk_at "nrm") => `(tactic| dsimp only [startD, List.map_cons, List.map_nil, List.length_cons, List.length_nil, List.replicate, List.set_cons_zero, List.set_cons_succ, List.cons_append, List.nil_append, Nat.reduceAdd, Nat.reduceSub, wipeD])
local macro_rules | `(tactic| walk_at "mm") => `(tactic| first | assumption | exact updM_same | (refine updM_get ?_ ?_ <;> first | assumption | (apply Ne.symm; assumption) | walk_at "mm"))
local macro_rules | `(tactic| walk_at "side") => `(tactic| first | omega | (simp only [List.length_cons, List.length_nil]; done) | (simp only [List.length_cons, List.length_nil, List.length_append, List.length_map, sizeLine_eq]; omega) | exact Or.inr ⟨by omega, by omega⟩ | exact Or.inl ⟨by omega, by omega⟩ | exact And.intro (by omega) (by omega) | exact And.intro (by omega) (And.intro (by omega) (by decide)))
local macro_rules | `(tactic| walk_at "d0") => `(tactic| first
  | ((with_reducible first | show Pd.nx _ _ | show Pd.bk _ _ | show Pd.ct _ _ | show Pd.rt _ _ _); walk_at "nrm")
  | (with_reducible refine' es_set ?_) | (with_reducible refine' es_drop ?_) | (with_reducible refine' es_ret ?_) | (with_reducible refine' w_if ?_) | (with_reducible refine' es_next ?_) | (with_reducible refine' es_break ?_) | (with_reducible refine' es_cont ?_) | (with_reducible refine' es_retN ?_) | (with_reducible refine' es_asg ?_) | (with_reducible refine' es_for ?_) | ((with_reducible refine' w_aug ?hh ?_); (case hh => exact rfl)))
local macro_rules | `(tactic| walk_at "dx") => `(tactic| first
  | ((with_reducible refine' ed_var ?hh ?_); (case hh => exact rfl)) | ((with_reducible refine' w_varF ?hh ?hm ?_); (case hh => exact rfl); (case hm => walk_at "mm"))
  | (with_reducible refine' w_int ?_) | (with_reducible refine' w_str ?_) | (with_reducible refine' w_bl ?_) | (with_reducible refine' w_non ?_) | (with_reducible refine' w_add ?_) | (with_reducible refine' w_sub ?_) | (with_reducible refine' w_mul ?_) | (with_reducible refine' w_mulW ?_) | (with_reducible refine' w_mod ?_) | (with_reducible refine' w_fdiv ?_) | (with_reducible refine' w_fdivW ?_) | (with_reducible refine' w_pow ?_) | (with_reducible refine' w_neg ?_) | (with_reducible refine' w_lt ?_) | (with_reducible refine' w_le ?_) | (with_reducible refine' w_gt ?_) | (with_reducible refine' w_ge ?_) | (with_reducible refine' w_eq ?_) | (with_reducible refine' w_ne ?_) | (with_reducible refine' w_isN ?_) | (with_reducible refine' w_notN ?_) | (with_reducible refine' w_andV ?_) | (with_reducible refine' w_orV ?_) | (with_reducible refine' w_notV ?_) | (with_reducible refine' w_ife ?_) | (with_reducible refine' w_lst ?_) | (with_reducible refine' w_lstM ?_) | (with_reducible refine' w_tup ?_) | (with_reducible refine' w_ixL ?_) | (with_reducible refine' w_ixT ?_) | (with_reducible refine' w_slL ?_) | (with_reducible refine' w_cat ?_) | (with_reducible refine' w_len ?_) | (with_reducible refine' w_list ?_) | (with_reducible refine' w_app ?_) | (with_reducible refine' w_ext ?_) | (with_reducible refine' w_pop ?_) | (with_reducible refine' w_call ?_) | (with_reducible refine' w_eqD ?_) | (with_reducible refine' w_neD ?_))
local macro_rules | `(tactic| walk_at "dt") => `(tactic| first
  | (with_reducible refine' w_test ?_) | (with_reducible refine' w_B ?_) | (with_reducible refine' w_and ?_) | (with_reducible refine' w_or ?_) | (with_reducible refine' w_not ?_) | (with_reducible refine' et_yes ?_) | (with_reducible refine' ea_nil ?_) | (with_reducible refine' ea_cons ?_) | (with_reducible refine' eo_none ?_) | (with_reducible refine' w_part ?_) | (with_reducible refine' eg_name ?_) | (with_reducible refine' w_setM ?_) | (with_reducible refine' w_tupT ?_) | (with_reducible refine' egs_nil ?_) | (with_reducible refine' egs_cons ?_) | (with_reducible refine' w_iL ?_) | (with_reducible refine' w_iT ?_) | (with_reducible refine' w_iR1 ?_) | (with_reducible refine' w_iR2 ?_) | (with_reducible refine' w_iRev ?_))
local macro_rules | `(tactic| walk_at "dw") => `(tactic| first
  | (with_reducible refine' i1 ?_) | (with_reducible refine' i2 ?_) | (with_reducible refine' s1 ?_) | (with_reducible refine' s2 ?_) | (with_reducible refine' b1 ?_) | (with_reducible refine' l1_lst ?_) | (with_reducible refine' l1_frz ?_) | (with_reducible refine' l1_tup ?_) | (with_reducible refine' ll1_lst ?_) | (with_reducible refine' ll1_frz ?_) | (with_reducible refine' f1_lst ?_) | (with_reducible refine' f1_frz ?_) | (with_reducible refine' t1 ?_) | (with_reducible refine' n1 ?_) | (with_reducible refine' e2_int ?_) | (with_reducible refine' e2_str ?_) | (with_reducible refine' e2_bl ?_) | (with_reducible refine' br_not ?_) | (with_reducible refine' br_true ?_) | (with_reducible refine' br_false ?_)
  | ((with_reducible refine' sc ?hh ?_); (case hh => walk_at "side")) | ((with_reducible refine' l1_adr ?hm ?_); (case hm => walk_at "mm")) | ((with_reducible refine' ll1_adr ?hm ?_); (case hm => walk_at "mm")) | ((with_reducible refine' m1 ?hm ?_); (case hm => walk_at "mm")) | ((with_reducible refine' g1 ?hm ?_); (case hm => walk_at "mm"))
  | ((with_reducible refine' br_pos ?hh ?_); (case hh => omega)) | ((with_reducible refine' br_neg ?hh ?_); (case hh => omega)))
local macro_rules | `(tactic| walk_at "dy") => `(tactic| first
  | (with_reducible refine' w_raise ?_) | (with_reducible refine' w_isI ?_) | (with_reducible refine' w_gtD ?_) | (with_reducible refine' w_ltD ?_) | (with_reducible refine' w_leD ?_) | (with_reducible refine' w_geD ?_) | (with_reducible refine' w_mulS ?_) | (with_reducible refine' w_addS ?_) | (with_reducible refine' w_catT ?_) | (with_reducible refine' w_max2 ?_) | (with_reducible refine' w_min2 ?_) | (with_reducible refine' w_intX ?_) | (with_reducible refine' w_slM ?_) | (with_reducible refine' w_iR3 ?_) | (with_reducible refine' bn_non ?_) | (with_reducible refine' bn_int ?_) | (with_reducible refine' bn_str ?_) | (with_reducible refine' bn_bl ?_) | (with_reducible refine' bn_lst ?_) | (with_reducible refine' bn_frz ?_) | (with_reducible refine' bn_tup ?_) | (with_reducible refine' bn_adr ?_) | (with_reducible refine' ib_int ?_) | (with_reducible refine' ib_bl ?_) | (with_reducible refine' i3 ?_) | (with_reducible refine' DL.s2 ?_)
  | ((with_reducible refine' is_yes ?hh ?_); (case hh => (dsimp only [tyN]; decide +kernel))) | ((with_reducible refine' is_no ?hh ?_); (case hh => (dsimp only [tyN]; decide +kernel))))
local macro_rules | `(tactic| walk_at "dz") => `(tactic| first
  | (with_reducible refine' es_nextE ?_) | (with_reducible refine' w_tru ?_) | (with_reducible refine' tr_lst ?_) | (with_reducible refine' tr_frz ?_) | (with_reducible refine' tr_tup ?_) | (with_reducible refine' tr_bl ?_) | (with_reducible refine' tr_non ?_) | (with_reducible refine' tr_int ?_) | (with_reducible refine' w_inS ?_) | (with_reducible refine' w_ninS ?_) | (with_reducible refine' w_iS ?_) | (with_reducible refine' w_ordc ?_) | (with_reducible refine' w_abs ?_) | (with_reducible refine' w_lenS ?_) | (with_reducible refine' w_ixS ?_) | (with_reducible refine' w_join ?_) | (with_reducible refine' w_tupOf ?_) | (with_reducible refine' w_listRev ?_) | (with_reducible refine' w_unl ?_) | (with_reducible refine' w_chain ?_)
  | ((with_reducible refine' tr_adr ?hm ?_); (case hm => walk_at "mm")))
local macro_rules | `(tactic| walk_at "dm") => `(tactic| repeat (first | walk_at "dw" | walk_at "dx" | walk_at "dt" | walk_at "d0" | walk_at "dy" | walk_at "dz"))
local macro_rules | `(tactic| walk_at "dl") => `(tactic| repeat (first | walk_at "dw" | walk_at "dx" | walk_at "dt" | walk_at "d0" | walk_at "dy" | walk_at "dz" | (with_reducible refine' es_seq ?_)))
local macro_rules | `(tactic| walk_at "go") => `(tactic| ((try dsimp only [L2.cxOf, L2.Cx.nox, L2.Cx.wish]); walk_at "dl"))

namespace K01
section
variable {P : Program} {w : World} {K : PySem.W.Frag} {mg : Str → Option Value} {base : Heap} {Co Cf : Addr}
abbrev s_unpack_plain : Stmt := top 23
theorem sc_unpack_plain : FnScope ["octets", "at", "kind"] ["octets", "at"] (defScope s_unpack_plain) := ⟨rfl, rfl, rfl, by decide +kernel, rfl, by decide +kernel, by decide +kernel⟩
def T_unpack_plain (Co : Addr) : DSpX := fun ds M R RX => ∃ (os : List Int) (a : Nat), ds = [dI os, .int (a : Int)] ∧ Oct os ∧ os.length ≤ 1000000 ∧
  (unP (os.drop a) = none → RX ⟨.ref Co, none⟩ M) ∧ (∀ d n, unP (os.drop a) = some (d, n) → R (.tup [d, .int ((a + n : Nat) : Int)]) M)
theorem d_unpack_plain (T : Tx K mg Co Cf) (F : Dl K mg "unpack_plain" s_unpack_plain) (G_need : DfX P w K mg base 1 "need" 3 (T_need Co)) (G_unpack_number : DfX P w K mg base 2 "unpack_number" 2 (T_unpack_number Co)) (G_unpack_text : DfX P w K mg base 2 "unpack_text" 2 (T_unpack_text Co)) : DfX P w K mg base 3 "unpack_plain" 2 (T_unpack_plain Co) := by
  refine F.okX sc_unpack_plain (fun ds M R RX ⟨_, _, e, _⟩ => by rw [e]; rfl) (fun _ _ _ _ _ _ us hl => match us, hl with | [_, _], _ => rfl) fun f cdv A outer s H E hr => ⟨_, (pss_cons (ps_set (i := 2) sc_unpack_plain.nd rfl (by first | exact Or.inl rfl | exact Or.inr rfl) (pe_ix ix_list (pe_callX G_need (hr.mono (by decide)) (takes_of rfl rfl rfl rfl) (by rfl) (pa_cons (pv 0) (pa_cons (pv 1) (pa_cons pe_int pa_nil)))) pe_int (fun _ _ => rfl)))
      (pss_cons (ps_if (pt_cmpR op_eq (pv 2) (pe_cst (v := .int 0) (by rfl) T.c_NOTHING) (nomark _))
      (pss_one (ps_ret (pe_tup (pa_cons pe_non (pa_cons (pe_op op_add (pv 1) pe_int) pa_nil)))))
      pss_nil)
      (pss_cons (ps_if (pt_cmpR op_in_seq (pv 2) (pe_tup (pa_cons (pe_cst (v := .int 1) (by rfl) T.c_NUMBER) (pa_cons (pe_cst (v := .int 2) (by rfl) T.c_MINUS) pa_nil))) (by rfl))
      (pss_one (ps_ret (pe_callX G_unpack_number (hr.mono (by decide)) (takes_of rfl rfl rfl rfl) (by rfl) (pa_cons (pv 0) (pa_cons (pv 1) pa_nil)))))
      pss_nil)
      (pss_cons (ps_if (pt_cmpR op_eq (pv 2) (pe_cst (v := .int 3) (by rfl) T.c_TEXT) (nomark _))
      (pss_one (ps_ret (pe_callX G_unpack_text (hr.mono (by decide)) (takes_of rfl rfl rfl rfl) (by rfl) (pa_cons (pv 0) (pa_cons (pv 1) pa_nil)))))
      pss_nil)
      (pss_one (ps_raiseD PySem.F.excBase_ValueError (takes_of rfl rfl rfl rfl) T.x_Malformed.q T.x_Malformed.g T.x_Malformed.k T.x_Malformed.r))))))
   , ?_⟩
  rintro ds M R RX ⟨os, a, rfl, ho, hl, hx, hR⟩
  walk_at "go"
  refine w_callX ?_
  walk_at "dl"
  refine ⟨os, a, 1, rfl, fun h => hx ?_, fun h => ?_⟩
  · rw [List.drop_of_length_le (by omega)]
    rfl
  obtain ⟨k, r, hd⟩ : ∃ k r, os.drop a = k :: r := ⟨_, _, List.drop_eq_getElem_cons (by omega)⟩
  rw [hd]
  have hk := ho k (List.mem_of_mem_drop (i := a) (by rw [hd]; exact List.mem_cons_self))
  rw [hd] at hx hR
  walk_at "dl"
  refine at1o 0 rfl rfl ?_
  walk_at "dl"
  refine br_dec (fun h0 => ?_) (fun h0 => ?_)
  · subst h0
    walk_at "dl"
    exact hR .non 1 rfl
  walk_at "dl"
  refine sc ⟨rfl, fun z hz => ?_⟩ ?_
  · simp only [List.mem_cons, List.not_mem_nil, or_false] at hz
    rcases hz with rfl | rfl <;> rfl
  walk_at "dl"
  by_cases h12 : k = 1 ∨ k = 2
  · have e : ([D.int 1, D.int 2].any fun z => eqS z (D.int k)) = true := by
      rcases h12 with rfl | rfl <;> decide
    rw [e]
    walk_at "dl"
    refine w_callX ?_
    walk_at "dl"
    exact ⟨os, a, k, r, rfl, ho, hl, hd, h12, hx, hR⟩
  · have e : ([D.int 1, D.int 2].any fun z => eqS z (D.int k)) = false := by
      simp [eqS, vOf, eqV]
      omega
    rw [e]
    walk_at "dl"
    refine br_dec (fun h3 => ?_) (fun h3 => ?_)
    · subst h3
      walk_at "dl"
      refine w_callX ?_
      walk_at "dl"
      exact ⟨os, a, r, rfl, ho, hl, hd, hx, hR⟩
    · walk_at "dl"
      refine hx ?_
      simp only [unP]
      rw [if_neg h0, if_neg h12, if_neg h3]
abbrev s_unpack : Stmt := top 24
theorem sc_unpack : FnScope ["octets", "rows", "sizes", "at", "items", "data"] ["octets"] (defScope s_unpack) := ⟨rfl, rfl, rfl, by decide +kernel, rfl, by decide +kernel, by decide +kernel⟩
def T_unpack (Co : Addr) : DSpX := fun ds M R RX => ∃ os : List Int, ds = [dI os] ∧ Oct os ∧ os.length ≤ 1000000 ∧ (
  ((∀ r, os ≠ 4 :: r) ∧ (∀ d, unP os = some (d, os.length) → ∀ M', Inc M M' → R d M') ∧ ((∀ d, unP os ≠ some (d, os.length)) → ∀ M', Inc M M' → RX ⟨.ref Co, none⟩ M')) ∨
  ((∃ r, os = 4 :: r ∧ r.length < 2) ∧ ∀ M', Inc M M' → RX ⟨.ref Co, none⟩ M') ∨
  ∃ (xs : List It) (n : Nat) (tail : List Int), os = many n ++ (encs xs ++ tail) ∧ (∀ x ∈ xs, x.ok) ∧ xs.length ≤ n ∧ n ≤ 65535 ∧ (n = xs.length → tail = [] → ∀ M', Inc M M' → R (.tup (xs.map It.d)) M') ∧
    (n = xs.length → tail ≠ [] → ∀ M', Inc M M' → RX ⟨.ref Co, none⟩ M') ∧ (xs.length < n → (∀ r, tail ≠ 4 :: r) ∧ unP tail = none ∧ ∀ M', Inc M M' → RX ⟨.ref Co, none⟩ M'))
theorem d_unpack (T : Tx K mg Co Cf) (F : Dl K mg "unpack" s_unpack) (G_need : DfX P w K mg base 1 "need" 3 (T_need Co)) (G_number_of : Df P w K mg base 1 "number_of" 1 T_number_of) (G_unpack_plain : DfX P w K mg base 3 "unpack_plain" 2 (T_unpack_plain Co)) : DfX P w K mg base 4 "unpack" 1 (T_unpack Co) := by
  refine F.okX sc_unpack (fun ds M R RX ⟨_, e, _⟩ => by rw [e]; rfl) (fun _ _ _ _ _ _ us hl => match us, hl with | [_], _ => rfl) fun f cdv A outer s H E hr => ⟨_, (pss_cons (ps_set (i := 1) sc_unpack.nd rfl (by first | exact Or.inl rfl | exact Or.inr rfl) (pe_lstM (pa_cons (pe_lstM pa_nil) pa_nil)))
      (pss_cons (ps_set (i := 2) sc_unpack.nd rfl (by first | exact Or.inl rfl | exact Or.inr rfl) (pe_lstM (pa_cons pe_int pa_nil)))
      (pss_cons (ps_set (i := 3) sc_unpack.nd rfl (by first | exact Or.inl rfl | exact Or.inr rfl) pe_int)
      (pss_cons (ps_while (passes_of rfl) (pt_tru (pv 2))
      (pss_one (ps_if (pt_cmpR op_eq (pe_callB call_len_seq (by rfl) T.len (by decide +kernel) (pa_cons (pe_ix ix_list (pv 1) (pe_un un_neg pe_int) (fun _ _ => rfl)) pa_nil)) (pe_ix ix_list (pv 2) (pe_un un_neg pe_int) (fun _ _ => rfl)) (nomark _))
      (pss_cons (ps_set (i := 4) sc_unpack.nd rfl (by first | exact Or.inl rfl | exact Or.inr rfl) (pe_bm0 PySem.F.plainAttrs_list PySem.F.slot_list_pop PySem.F.type_list_pop mt_pop (pv 1)))
      (pss_cons (ps_expr (pe_bm0 PySem.F.plainAttrs_list PySem.F.slot_list_pop PySem.F.type_list_pop mt_pop (pv 2)))
      (pss_cons (ps_if (pt_not (pt_tru (pv 2)))
      (pss_one ps_break)
      pss_nil)
      (pss_one (ps_expr (pe_bm PySem.F.plainAttrs_list PySem.F.slot_list_append PySem.F.type_list_append mt_append (pe_ix ix_list (pv 1) (pe_un un_neg pe_int) (fun _ _ => rfl)) (pa_cons (pe_callTy call_tuple_of (by rfl) T.tuple (by decide +kernel) (pa_cons (pv 4) pa_nil)) pa_nil)))))))
      (pss_one (ps_if (pt_cmpR op_eq (pe_ix ix_list (pe_callX G_need (hr.mono (by decide)) (takes_of rfl rfl rfl rfl) (by rfl) (pa_cons (pv 0) (pa_cons (pv 3) (pa_cons pe_int pa_nil)))) pe_int (fun _ _ => rfl)) (pe_cst (v := .int 4) (by rfl) T.c_MANY) (nomark _))
      (pss_cons (ps_expr (pe_bm PySem.F.plainAttrs_list PySem.F.slot_list_append PySem.F.type_list_append mt_append (pv 2) (pa_cons (pe_callD G_number_of (hr.mono (by decide)) (by rfl) (pa_cons (pe_callX G_need (hr.mono (by decide)) (takes_of rfl rfl rfl rfl) (by rfl) (pa_cons (pv 0) (pa_cons (pe_op op_add (pv 3) pe_int) (pa_cons pe_int pa_nil)))) pa_nil)) pa_nil)))
      (pss_cons (ps_expr (pe_bm PySem.F.plainAttrs_list PySem.F.slot_list_append PySem.F.type_list_append mt_append (pv 1) (pa_cons (pe_lstM pa_nil) pa_nil)))
      (pss_one (ps_aug (i := 3) sc_unpack.nd rfl (by first | exact Or.inl rfl | exact Or.inr rfl) pe_int ip_add))))
      (pss_cons (ps_asg (pe_callX G_unpack_plain (hr.mono (by decide)) (takes_of rfl rfl rfl rfl) (by rfl) (pa_cons (pv 0) (pa_cons (pv 3) pa_nil))) (pg_tup (n := 2) rfl (pgs_cons (pg_name (i := 5) sc_unpack.nd rfl (by first | exact Or.inl rfl | exact Or.inr rfl)) (pgs_cons (pg_name (i := 3) sc_unpack.nd rfl (by first | exact Or.inl rfl | exact Or.inr rfl)) pgs_nil))))
      (pss_one (ps_expr (pe_bm PySem.F.plainAttrs_list PySem.F.slot_list_append PySem.F.type_list_append mt_append (pe_ix ix_list (pv 1) (pe_un un_neg pe_int) (fun _ _ => rfl)) (pa_cons (pv 5) pa_nil))))))))))
      (pss_cons (ps_if (pt_cmpR op_ne (pv 3) (pe_callB call_len_seq (by rfl) T.len (by decide +kernel) (pa_cons (pv 0) pa_nil)) (nomark _))
      (pss_one (ps_raiseD PySem.F.excBase_ValueError (takes_of rfl rfl rfl rfl) T.x_Malformed.q T.x_Malformed.g T.x_Malformed.k T.x_Malformed.r))
      pss_nil)
      (pss_one (ps_ret (pe_ix ix_list (pv 4) pe_int (fun _ _ => rfl)))))))))
   , ?_⟩
  rintro ds M R RX ⟨os, rfl, ho, hl, hcase⟩
  walk_at "go"
  intro q hq
  have hnq : M q = none := hq
  walk_at "dl"
  intro p hp
  have hp' : updM M q (.lst []) p = none := hp
  have hqp : q ≠ p := mm_ne updM_same hp'
  have hnp : M p = none := by rw [updM_ne (Ne.symm hqp)] at hp'; exact hp'
  walk_at "dl"
  intro z hz
  have hz' : updM (updM M q (.lst [])) p (.lst [.adr q]) z = none := hz
  have hpz : p ≠ z := mm_ne updM_same hz'
  have hqz : q ≠ z := mm_ne (updM_get hqp updM_same) hz'
  have hnz : M z = none := by rw [updM_ne (Ne.symm hpz), updM_ne (Ne.symm hqz)] at hz'; exact hz'
  walk_at "dl"
  have hInc : Inc M (updM (updM (updM M q (.lst [])) p (.lst [.adr q])) z (.lst [.int 1])) := ((Inc.refl M).upd hnq |>.upd hnp).upd hnz
  have hMp : updM (updM (updM M q (.lst [])) p (.lst [.adr q])) z (.lst [.int 1]) p = some (.lst [.adr q]) := updM_get hpz updM_same
  have hMq : updM (updM (updM M q (.lst [])) p (.lst [.adr q])) z (.lst [.int 1]) q = some (.lst []) := updM_get hqz (updM_get hqp updM_same)
  have hMz : updM (updM (updM M q (.lst [])) p (.lst [.adr q])) z (.lst [.int 1]) z = some (.lst [.int 1]) := updM_same
  generalize updM (updM (updM M q (.lst [])) p (.lst [.adr q])) z (.lst [.int 1]) = M0 at *
  rcases hcase with ⟨h4, hR, hx⟩ | ⟨⟨r, rfl, hr2⟩, hx⟩ | ⟨xs, n, tail, rfl, hxs, hn, hn2, h1, h2, h3⟩
  · refine es_seq (es_while (fun m s' => (m = 1 ∧ s' = ⟨[some (dI os), some (.adr p), some (.adr z), some (.int 0), none, none], M0⟩) ∨ ∃ (d : D) (n : Nat) (M1 : MM), m = 0 ∧ unP os = some (d, n) ∧ Inc M M1 ∧ M1 p = some (.lst [.adr q]) ∧ M1 q = some (.lst [d]) ∧ M1 z = some (.lst [.int 1]) ∧
      s' = ⟨[some (dI os), some (.adr p), some (.adr z), some (.int (n : Int)), none, some d], M1⟩) 1 (.inl ⟨rfl, rfl⟩) ?_)
    rintro m _ (⟨rfl, rfl⟩ | ⟨d, n, M1, rfl, hu, hI1, hp1, hq1, hz1, rfl⟩)
    · walk_at "dl"
      refine ⟨fun _ => ?_, fun z => by cases z⟩
      walk_at "dl"
      refine at1l (xs := [.adr q]) (d := .adr q) rfl ?_
      walk_at "dl"
      refine at1l (xs := [.int 1]) (d := .int 1) rfl ?_
      walk_at "dl"
      refine br_neg (by simp) ?_
      walk_at "dl"
      refine w_callX ?_
      walk_at "dl"
      refine ⟨os, 0, 1, rfl, fun h => hx (fun d e => ?_) _ hInc, fun h => ?_⟩
      · have := List.eq_nil_of_length_eq_zero (show os.length = 0 by omega)
        subst this
        cases e
      obtain ⟨k, r, rfl⟩ : ∃ k r, os = k :: r := by
        cases os with
        | nil => simp at h
        | cons k r => exact ⟨k, r, rfl⟩
      have hk4 : k ≠ 4 := fun z => h4 r (by rw [z])
      walk_at "dl"
      refine at1o 0 rfl rfl ?_
      walk_at "dl"
      refine w_callX ?_
      walk_at "dl"
      refine ⟨k :: r, 0, rfl, ho, hl, fun h => hx (fun d e => ?_) _ hInc, fun d n h => ?_⟩
      · rw [List.drop_zero] at h
        rw [h] at e
        cases e
      rw [List.drop_zero] at h
      walk_at "dl"
      refine at1l (xs := [.adr q]) (d := .adr q) rfl ?_
      walk_at "dl"
      refine ⟨0, by omega, .inr ⟨d, n, _, rfl, h, hInc.upd hnq, updM_get (Ne.symm hqp) hMp, updM_same, updM_get (Ne.symm hqz) hMz, ?_⟩⟩
      rw [Nat.zero_add]
    · walk_at "dl"
      refine ⟨fun _ => ?_, fun z => by cases z⟩
      walk_at "dl"
      refine at1l (xs := [.adr q]) (d := .adr q) rfl ?_
      walk_at "dl"
      refine at1l (xs := [.int 1]) (d := .int 1) rfl ?_
      walk_at "dl"
      refine br_pos (by simp) ?_
      walk_at "dl"
      refine ⟨.adr q, rfl, ?_⟩
      walk_at "dl"
      refine ⟨.int 1, rfl, ?_⟩
      walk_at "dl"
      refine br_true ?_
      walk_at "dl"
      rw [List.length_map]
      refine br_dec (fun e => ?_) (fun e => ?_)
      · walk_at "dl"
        refine at1o 0 rfl rfl ?_
        walk_at "dl"
        exact hR d (by rw [hu, show n = os.length by omega]) _ ((hI1.upd hnp).upd hnz)
      · walk_at "dl"
        exact hx (fun d' e' => e (by rw [hu] at e'; cases e'; rfl)) _ ((hI1.upd hnp).upd hnz)
  · refine es_seq (es_while (fun m s' => m = 1 ∧ s' = ⟨[some (dI (4 :: r)), some (.adr p), some (.adr z), some (.int 0), none, none], M0⟩) 1 ⟨rfl, rfl⟩ ?_)
    rintro m _ ⟨rfl, rfl⟩
    walk_at "dl"
    refine ⟨fun _ => ?_, fun z => by cases z⟩
    walk_at "dl"
    refine at1l (xs := [.adr q]) (d := .adr q) rfl ?_
    walk_at "dl"
    refine at1l (xs := [.int 1]) (d := .int 1) rfl ?_
    walk_at "dl"
    refine br_neg (by simp) ?_
    walk_at "dl"
    refine w_callX ?_
    walk_at "dl"
    refine ⟨4 :: r, 0, 1, rfl, fun h => by simp at h, fun h => ?_⟩
    walk_at "dl"
    refine at1o 0 rfl rfl ?_
    walk_at "dl"
    refine w_callX ?_
    walk_at "dl"
    exact ⟨4 :: r, 1, 2, rfl, fun h => hx _ hInc, fun h => by simp at h; omega⟩
  · obtain ⟨os, hos⟩ : ∃ os, os = many n ++ (encs xs ++ tail) := ⟨_, rfl⟩
    have hos3 : ∀ j, j ≤ xs.length → os.drop (3 + (encs (xs.take j)).length) = encs (xs.drop j) ++ tail := fun j hj => by
      have e : os = (many n ++ encs (xs.take j)) ++ (encs (xs.drop j) ++ tail) := by
        rw [hos, List.append_assoc, ← List.append_assoc (encs (xs.take j)), ← encs_append, List.take_append_drop]
      have l : 3 + (encs (xs.take j)).length = (many n ++ encs (xs.take j)).length := by rw [List.length_append]; simp [many, lowI_len]
      rw [e, l, List.drop_left]
    have hosl : os.length = 3 + (encs xs).length + tail.length := by rw [hos]; simp [many, lowI_len]; omega
    have hos1 : (os.drop 1).take 2 = lowI n 2 := by rw [hos]; simp [many, lowI_2]
    have hos0 : ∃ r, os = 4 :: r := ⟨_, by rw [hos]; rfl⟩
    rw [← hos] at ho hl ⊢
    refine es_seq (es_while (fun m s' => (m = n + 3 ∧ s' = ⟨[some (dI os), some (.adr p), some (.adr z), some (.int 0), none, none], M0⟩) ∨
      (∃ (j : Nat) (u : Addr) (y : Option D) (M1 : MM), m = n - j + 2 ∧ j ≤ xs.length ∧ u ≠ p ∧ u ≠ q ∧ u ≠ z ∧ M u = none ∧ Inc M M1 ∧ M1 p = some (.lst [.adr q, .adr u]) ∧ M1 q = some (.lst []) ∧ M1 u = some (.lst ((xs.take j).map It.d)) ∧ M1 z = some (.lst [.int 1, .int n]) ∧
        s' = ⟨[some (dI os), some (.adr p), some (.adr z), some (.int ((3 + (encs (xs.take j)).length : Nat) : Int)), none, y], M1⟩) ∨
      ∃ (x y : Option D) (M1 : MM), m = 1 ∧ n = xs.length ∧ Inc M M1 ∧ M1 p = some (.lst [.adr q]) ∧ M1 q = some (.lst [.tup (xs.map It.d)]) ∧ M1 z = some (.lst [.int 1]) ∧ s' = ⟨[some (dI os), some (.adr p), some (.adr z), some (.int ((3 + (encs xs).length : Nat) : Int)), x, y], M1⟩) (n + 3) (.inl ⟨rfl, rfl⟩) ?_)
    rintro m _ (⟨rfl, rfl⟩ | ⟨j, u, y, M1, rfl, hj, hup, huq, huz, hMu, hI1, hp1, hq1, hu1, hz1, rfl⟩ | ⟨x, y, M1, rfl, hnx, hI1, hp1, hq1, hz1, rfl⟩)
    · walk_at "dl"
      refine ⟨fun _ => ?_, fun z => by cases z⟩
      walk_at "dl"
      refine at1l (xs := [.adr q]) (d := .adr q) rfl ?_
      walk_at "dl"
      refine at1l (xs := [.int 1]) (d := .int 1) rfl ?_
      walk_at "dl"
      refine br_neg (by simp) ?_
      walk_at "dl"
      refine w_callX ?_
      walk_at "dl"
      obtain ⟨r, hr⟩ := hos0
      refine ⟨os, 0, 1, rfl, fun h => by omega, fun h => ?_⟩
      have e : (os.drop 0).take 1 = [4] := by rw [hr]; rfl
      rw [e]
      walk_at "dl"
      refine at1o 0 rfl rfl ?_
      walk_at "dl"
      refine w_callX ?_
      walk_at "dl"
      refine ⟨os, 1, 2, rfl, fun h => by omega, fun h => ?_⟩
      rw [hos1]
      walk_at "dl"
      refine ⟨_, rfl, ?_⟩
      rw [num_low2 (by omega)]
      walk_at "dl"
      intro u hu
      have hu : updM M0 z (.lst [.int 1, .int n]) u = none := hu
      have hpu : p ≠ u := mm_ne (updM_get hpz hMp) hu
      have hzu : z ≠ u := mm_ne updM_same hu
      have hqu : q ≠ u := mm_ne (updM_get hqz hMq) hu
      have hM0u : M0 u = none := by rw [updM_ne (Ne.symm hzu)] at hu; exact hu
      have hMu : M u = none := hInc.free hM0u
      walk_at "dl"
      refine ⟨n - 0 + 2, by omega, .inr (.inl ⟨0, u, none, updM (updM (updM M0 z (.lst [.int 1, .int n])) u (.lst [])) p (.lst [.adr q, .adr u]), rfl, Nat.zero_le _, Ne.symm hpu, Ne.symm hqu, Ne.symm hzu, hMu, ((hInc.upd hnz).upd hMu).upd hnp, by walk_at "mm", by walk_at "mm", by walk_at "mm", by walk_at "mm", ?_⟩)⟩
      rfl
    · walk_at "dl"
      refine ⟨fun _ => ?_, fun z => by cases z⟩
      walk_at "dl"
      refine at1l (xs := [.adr q, .adr u]) (d := .adr u) rfl ?_
      walk_at "dl"
      rw [List.length_map, List.length_take, Nat.min_eq_left hj]
      refine at1l (xs := [.int 1, .int n]) (d := .int n) rfl ?_
      walk_at "dl"
      refine br_dec (fun hjn => ?_) (fun hjn => ?_)
      · obtain rfl : j = n := by omega
        obtain rfl : j = xs.length := by omega
        walk_at "dl"
        refine ⟨.adr u, rfl, ?_⟩
        walk_at "dl"
        refine ⟨_, rfl, ?_⟩
        walk_at "dl"
        refine br_false ?_
        walk_at "dl"
        refine at1l (xs := [.adr q]) (d := .adr q) rfl ?_
        walk_at "dl"
        rw [List.take_length]
        refine ⟨1, by omega, .inr (.inr ⟨some (.adr u), y, updM (updM (updM M1 p (.lst [.adr q])) z (.lst [.int 1])) q (.lst [.tup (xs.map It.d)]), rfl, rfl, ((hI1.upd hnp).upd hnz).upd hnq, by walk_at "mm", by walk_at "mm", by walk_at "mm", ?_⟩)⟩
        rfl
      · walk_at "dl"
        refine w_callX ?_
        walk_at "dl"
        have hd := hos3 j hj
        refine ⟨os, 3 + (encs (xs.take j)).length, 1, rfl, fun h => ?_, fun h => ?_⟩
        · have hjx : j = xs.length := by
            apply Nat.le_antisymm hj
            apply Nat.le_of_not_lt
            intro hlt
            have := congrArg List.length hd
            rw [List.length_drop, List.drop_eq_getElem_cons hlt, encs_cons] at this
            have := It.enc_pos xs[j]
            simp only [List.length_append] at *
            omega
          exact (h3 (by omega)).2.2 _ hI1
        by_cases hjx : j = xs.length
        · subst hjx
          obtain ⟨g1, g2, g3⟩ := h3 (by omega)
          rw [List.drop_length, encs_nil, List.nil_append] at hd
          obtain ⟨k, r, hkr⟩ : ∃ k r, tail = k :: r := by
            cases tail with
            | nil => simp at hosl; rw [List.take_length] at h; omega
            | cons k r => exact ⟨k, r, rfl⟩
          rw [hd, hkr]
          have hk4 : ¬ k = 4 := fun z => g1 r (by rw [hkr, z])
          walk_at "dl"
          refine at1o 0 rfl rfl ?_
          walk_at "dl"
          refine w_callX ?_
          walk_at "dl"
          refine ⟨os, 3 + (encs (xs.take xs.length)).length, rfl, ho, hl, fun _ => g3 _ hI1, fun d n h => ?_⟩
          rw [hd, g2] at h
          cases h
        · have hlt : j < xs.length := by omega
          rw [List.drop_eq_getElem_cons hlt, encs_cons] at hd
          have hxj := hxs _ (List.getElem_mem hlt)
          have hun := unP_enc hxj (encs (xs.drop (j + 1)) ++ tail)
          rw [← List.append_assoc] at hun
          obtain ⟨k, r, hkr, hk4⟩ := It.enc_head xs[j]
          have e : (os.drop (3 + (encs (xs.take j)).length)).take 1 = [k] := by rw [hd, hkr]; rfl
          rw [e]
          walk_at "dl"
          refine at1o 0 rfl rfl ?_
          walk_at "dl"
          refine w_callX ?_
          walk_at "dl"
          refine ⟨os, 3 + (encs (xs.take j)).length, rfl, ho, hl, fun h => ?_, fun d n' h => ?_⟩
          · rw [hd, hun] at h
            cases h
          rw [hd, hun] at h
          cases h
          walk_at "dl"
          refine at1l (xs := [.adr q, .adr u]) (d := .adr u) rfl ?_
          walk_at "dl"
          refine sc (by rw [List.length_map, List.length_take, sizeLine_eq]; omega) ?_
          walk_at "dl"
          have e1 : 3 + (encs (xs.take j)).length + xs[j].enc.length = 3 + (encs (xs.take (j + 1))).length := by
            rw [List.take_add_one, List.getElem?_eq_getElem hlt, encs_append, List.length_append]
            simp [encs]
            omega
          have e2 : (xs.take j).map It.d ++ [xs[j].d] = (xs.take (j + 1)).map It.d := by
            rw [List.take_add_one, List.getElem?_eq_getElem hlt, List.map_append]
            rfl
          rw [e1, e2]
          refine ⟨n - (j + 1) + 2, by omega, .inr (.inl ⟨j + 1, u, some xs[j].d, updM M1 u (.lst ((xs.take (j + 1)).map It.d)), rfl, hlt, hup, huq, huz, hMu, hI1.upd hMu, by walk_at "mm", by walk_at "mm", by walk_at "mm", by walk_at "mm", ?_⟩)⟩
          rfl
    · walk_at "dl"
      refine ⟨fun _ => ?_, fun z => by cases z⟩
      walk_at "dl"
      refine at1l (xs := [.adr q]) (d := .adr q) rfl ?_
      walk_at "dl"
      refine at1l (xs := [.int 1]) (d := .int 1) rfl ?_
      walk_at "dl"
      refine br_pos (by simp) ?_
      walk_at "dl"
      refine ⟨.adr q, rfl, ?_⟩
      walk_at "dl"
      refine ⟨.int 1, rfl, ?_⟩
      walk_at "dl"
      refine br_true ?_
      walk_at "dl"
      rw [List.length_map]
      refine br_dec (fun e => ?_) (fun e => ?_)
      · walk_at "dl"
        refine at1o 0 rfl rfl ?_
        walk_at "dl"
        exact h1 hnx (List.eq_nil_of_length_eq_zero (by omega)) _ ((hI1.upd hnp).upd hnz)
      · walk_at "dl"
        exact h2 hnx (fun e' => e (by rw [e'] at hosl; simp at hosl; omega)) _ ((hI1.upd hnp).upd hnz)
end
end K01

end

section
open PySem L2 Evl DL
local macro_rules | `(tactic| walk_at "blk") => `(tactic| first | exact rfl | (dsimp only [L2.Cx.blk, L2.Cx.tr, L2.Cx.suite, L2.Cx.nox, L2.cxOf, L2.Cx.wish]; done) | (dsimp only [L2.Cx.blk, L2.Cx.tr, L2.Cx.suite, L2.Cx.nox, L2.cxOf, L2.Cx.wish]; exact rfl))
local macro_rules | `(tactic| walk_at "nrm") => `(tactic| dsimp only [startD, List.map_cons, List.map_nil, List.length_cons, List.length_nil, List.replicate, List.set_cons_zero, List.set_cons_succ, List.cons_append, List.nil_append, Nat.reduceAdd, Nat.reduceSub, wipeD])
local macro_rules | `(tactic| walk_at "mm") => `(tactic| first | assumption | exact updM_same | (refine updM_get ?_ ?_ <;> first | assumption | (apply Ne.symm; assumption) | walk_at "mm"))
local macro_rules | `(tactic| walk_at "side") => `(tactic| first | omega | (simp only [List.length_cons, List.length_nil]; done) | (simp only [List.length_cons, List.length_nil, List.length_append, List.length_map, sizeLine_eq]; omega) | exact Or.inr ⟨by omega, by omega⟩ | exact Or.inl ⟨by omega, by omega⟩ | exact And.intro (by omega) (by omega) | exact And.intro (by omega) (And.intro (by omega) (by decide)))
local macro_rules | `(tactic| walk_at "d0") => `(tactic| first
  | ((with_reducible first | show Pd.nx _ _ | show Pd.bk _ _ | show Pd.ct _ _ | show Pd.rt _ _ _); walk_at "nrm")
  | (with_reducible refine' es_set ?_) | (with_reducible refine' es_drop ?_) | (with_reducible refine' es_ret ?_) | (with_reducible refine' w_if ?_) | (with_reducible refine' es_next ?_) | (with_reducible refine' es_break ?_) | (with_reducible refine' es_cont ?_) | (with_reducible refine' es_retN ?_) | (with_reducible refine' es_asg ?_) | (with_reducible refine' es_for ?_) | ((with_reducible refine' w_aug ?hh ?_); (case hh => exact rfl)))
local macro_rules | `(tactic| walk_at "dx") => `(tactic| first
  | ((with_reducible refine' ed_var ?hh ?_); (case hh => exact rfl)) | ((with_reducible refine' w_varF ?hh ?hm ?_); (case hh => exact rfl); (case hm => walk_at "mm"))
  | (with_reducible refine' w_int ?_) | (with_reducible refine' w_str ?_) | (with_reducible refine' w_bl ?_) | (with_reducible refine' w_non ?_) | (with_reducible refine' w_add ?_) | (with_reducible refine' w_sub ?_) | (with_reducible refine' w_mul ?_) | (with_reducible refine' w_mulW ?_) | (with_reducible refine' w_mod ?_) | (with_reducible refine' w_fdiv ?_) | (with_reducible refine' w_fdivW ?_) | (with_reducible refine' w_pow ?_) | (with_reducible refine' w_neg ?_) | (with_reducible refine' w_lt ?_) | (with_reducible refine' w_le ?_) | (with_reducible refine' w_gt ?_) | (with_reducible refine' w_ge ?_) | (with_reducible refine' w_eq ?_) | (with_reducible refine' w_ne ?_) | (with_reducible refine' w_isN ?_) | (with_reducible refine' w_notN ?_) | (with_reducible refine' w_andV ?_) | (with_reducible refine' w_orV ?_) | (with_reducible refine' w_notV ?_) | (with_reducible refine' w_ife ?_) | (with_reducible refine' w_lst ?_) | (with_reducible refine' w_lstM ?_) | (with_reducible refine' w_tup ?_) | (with_reducible refine' w_ixL ?_) | (with_reducible refine' w_ixT ?_) | (with_reducible refine' w_slL ?_) | (with_reducible refine' w_cat ?_) | (with_reducible refine' w_len ?_) | (with_reducible refine' w_list ?_) | (with_reducible refine' w_app ?_) | (with_reducible refine' w_ext ?_) | (with_reducible refine' w_pop ?_) | (with_reducible refine' w_call ?_) | (with_reducible refine' w_eqD ?_) | (with_reducible refine' w_neD ?_))
local macro_rules | `(tactic| walk_at "dt") => `(tactic| first
  | (with_reducible refine' w_test ?_) | (with_reducible refine' w_B ?_) | (with_reducible refine' w_and ?_) | (with_reducible refine' w_or ?_) | (with_reducible refine' w_not ?_) | (with_reducible refine' et_yes ?_) | (with_reducible refine' ea_nil ?_) | (with_reducible refine' ea_cons ?_) | (with_reducible refine' eo_none ?_) | (with_reducible refine' w_part ?_) | (with_reducible refine' eg_name ?_) | (with_reducible refine' w_setM ?_) | (with_reducible refine' w_tupT ?_) | (with_reducible refine' egs_nil ?_) | (with_reducible refine' egs_cons ?_) | (with_reducible refine' w_iL ?_) | (with_reducible refine' w_iT ?_) | (with_reducible refine' w_iR1 ?_) | (with_reducible refine' w_iR2 ?_) | (with_reducible refine' w_iRev ?_))
local macro_rules | `(tactic| walk_at "dw") => `(tactic| first
  | (with_reducible refine' i1 ?_) | (with_reducible refine' i2 ?_) | (with_reducible refine' s1 ?_) | (with_reducible refine' s2 ?_) | (with_reducible refine' b1 ?_) | (with_reducible refine' l1_lst ?_) | (with_reducible refine' l1_frz ?_) | (with_reducible refine' l1_tup ?_) | (with_reducible refine' ll1_lst ?_) | (with_reducible refine' ll1_frz ?_) | (with_reducible refine' f1_lst ?_) | (with_reducible refine' f1_frz ?_) | (with_reducible refine' t1 ?_) | (with_reducible refine' n1 ?_) | (with_reducible refine' e2_int ?_) | (with_reducible refine' e2_str ?_) | (with_reducible refine' e2_bl ?_) | (with_reducible refine' br_not ?_) | (with_reducible refine' br_true ?_) | (with_reducible refine' br_false ?_)
  | ((with_reducible refine' sc ?hh ?_); (case hh => walk_at "side")) | ((with_reducible refine' l1_adr ?hm ?_); (case hm => walk_at "mm")) | ((with_reducible refine' ll1_adr ?hm ?_); (case hm => walk_at "mm")) | ((with_reducible refine' m1 ?hm ?_); (case hm => walk_at "mm")) | ((with_reducible refine' g1 ?hm ?_); (case hm => walk_at "mm"))
  | ((with_reducible refine' br_pos ?hh ?_); (case hh => omega)) | ((with_reducible refine' br_neg ?hh ?_); (case hh => omega)))
local macro_rules | `(tactic| walk_at "dy") => `(tactic| first
  | (with_reducible refine' w_raise ?_) | (with_reducible refine' w_isI ?_) | (with_reducible refine' w_gtD ?_) | (with_reducible refine' w_ltD ?_) | (with_reducible refine' w_leD ?_) | (with_reducible refine' w_geD ?_) | (with_reducible refine' w_mulS ?_) | (with_reducible refine' w_addS ?_) | (with_reducible refine' w_catT ?_) | (with_reducible refine' w_max2 ?_) | (with_reducible refine' w_min2 ?_) | (with_reducible refine' w_intX ?_) | (with_reducible refine' w_slM ?_) | (with_reducible refine' w_iR3 ?_) | (with_reducible refine' bn_non ?_) | (with_reducible refine' bn_int ?_) | (with_reducible refine' bn_str ?_) | (with_reducible refine' bn_bl ?_) | (with_reducible refine' bn_lst ?_) | (with_reducible refine' bn_frz ?_) | (with_reducible refine' bn_tup ?_) | (with_reducible refine' bn_adr ?_) | (with_reducible refine' ib_int ?_) | (with_reducible refine' ib_bl ?_) | (with_reducible refine' i3 ?_) | (with_reducible refine' DL.s2 ?_)
  | ((with_reducible refine' is_yes ?hh ?_); (case hh => (dsimp only [tyN]; decide +kernel))) | ((with_reducible refine' is_no ?hh ?_); (case hh => (dsimp only [tyN]; decide +kernel))))
local macro_rules | `(tactic| walk_at "dz") => `(tactic| first
  | (with_reducible refine' es_nextE ?_) | (with_reducible refine' w_tru ?_) | (with_reducible refine' tr_lst ?_) | (with_reducible refine' tr_frz ?_) | (with_reducible refine' tr_tup ?_) | (with_reducible refine' tr_bl ?_) | (with_reducible refine' tr_non ?_) | (with_reducible refine' tr_int ?_) | (with_reducible refine' w_inS ?_) | (with_reducible refine' w_ninS ?_) | (with_reducible refine' w_iS ?_) | (with_reducible refine' w_ordc ?_) | (with_reducible refine' w_abs ?_) | (with_reducible refine' w_lenS ?_) | (with_reducible refine' w_ixS ?_) | (with_reducible refine' w_join ?_) | (with_reducible refine' w_tupOf ?_) | (with_reducible refine' w_listRev ?_) | (with_reducible refine' w_unl ?_) | (with_reducible refine' w_chain ?_)
  | ((with_reducible refine' tr_adr ?hm ?_); (case hm => walk_at "mm")))
local macro_rules | `(tactic| walk_at "dm") => `(tactic| repeat (first | walk_at "dw" | walk_at "dx" | walk_at "dt" | walk_at "d0" | walk_at "dy" | walk_at "dz"))
local macro_rules | `(tactic| walk_at "dl") => `(tactic| repeat (first | walk_at "dw" | walk_at "dx" | walk_at "dt" | walk_at "d0" | walk_at "dy" | walk_at "dz" | (with_reducible refine' es_seq ?_)))
local macro_rules | `(tactic| walk_at "go") => `(tactic| ((try dsimp only [L2.cxOf, L2.Cx.nox, L2.Cx.wish]); walk_at "dl"))

namespace K01
section
variable {P : Program} {w : World} {K : PySem.W.Frag} {mg : Str → Option Value} {base : Heap} {Co Cf : Addr}
abbrev s_law_number : Stmt := top 26
theorem sc_law_number : FnScope ["script", "k", "cell", "first", "second", "third"] ["script", "k"] (defScope s_law_number) := ⟨rfl, rfl, rfl, by decide +kernel, rfl, by decide +kernel, by decide +kernel⟩
def T_law_number : DSp := fun ds M R => ∃ (d : D) (ns : List Int) (k : Int), ds = [d, .int k] ∧ (d = dI ns ∨ d = .frz (ns.map .int)) ∧ 0 ≤ k ∧ k < 1000000 ∧ ∀ z : Int, R (.int z) M
theorem d_law_number (T : Tx K mg Co Cf
) (F : Dl K mg "_law_number" s_law_number) : Df P w K mg base 1 "_law_number" 2 T_law_number := by
  refine F.ok sc_law_number (fun ds M R ⟨n, _, _, e, _⟩ => by rw [e]; rfl) (fun _ _ _ _ _ _ us hl => match us, hl with | [_, _], _ => rfl) fun f cdv A outer s H E hr => ⟨_, (pss_cons (ps_set (i := 2) sc_law_number.nd rfl (by first | exact Or.inl rfl | exact Or.inr rfl) pe_int)
      (pss_cons (ps_if (pt_cmpR op_gt (pe_callB call_len_seq (by rfl) T.len (by decide +kernel) (pa_cons (pv 0) pa_nil)) pe_int (nomark _))
      (pss_one (ps_set (i := 2) sc_law_number.nd rfl (by first | exact Or.inl rfl | exact Or.inr rfl) (pe_ix ix_list (pv 0) (pe_op op_mod (pe_callTy call_int1 (by rfl) T.int (by decide +kernel) (pa_cons (pv 1) pa_nil)) (pe_callB call_len_seq (by rfl) T.len (by decide +kernel) (pa_cons (pv 0) pa_nil))) (fun _ _ => rfl))))
      pss_nil)
      (pss_cons (ps_if (pt_cmpR op_lt (pv 2) pe_int (nomark _))
      (pss_one (ps_set (i := 2) sc_law_number.nd rfl (by first | exact Or.inl rfl | exact Or.inr rfl) (pe_op op_sub pe_int (pe_op op_mul pe_int (pv 2)))))
      pss_nil)
      (pss_cons (ps_if (PW.pt (pw_and (pt_cmpR op_ge (pv 2) (pe_op op_pow pe_int pe_int) (nomark _)) (pw_and1 (pt_cmpR op_lt (pv 1) (pe_callB call_len_seq (by rfl) T.len (by decide +kernel) (pa_cons (pv 0) pa_nil)) (nomark _)))))
      (pss_one (ps_ret (pv 2)))
      pss_nil)
      (pss_cons (ps_set (i := 3) sc_law_number.nd rfl (by first | exact Or.inl rfl | exact Or.inr rfl) (pe_op op_mod (pe_callTy call_int1 (by rfl) T.int (by decide +kernel) (pa_cons (pe_op op_add (pe_op op_mul (pe_op op_add (pv 2) pe_int) pe_int) (pe_op op_mul (pe_op op_add (pv 1) pe_int) pe_int)) pa_nil)) pe_int))
      (pss_cons (ps_set (i := 4) sc_law_number.nd rfl (by first | exact Or.inl rfl | exact Or.inr rfl) (pe_op op_mod (pe_callTy call_int1 (by rfl) T.int (by decide +kernel) (pa_cons (pe_op op_add (pe_op op_add (pe_op op_add (pe_op op_mul (pv 3) (pv 3)) (pe_op op_mul pe_int (pv 3))) (pe_op op_mul (pe_op op_add (pv 2) pe_int) pe_int)) (pv 1)) pa_nil)) pe_int))
      (pss_cons (ps_set (i := 5) sc_law_number.nd rfl (by first | exact Or.inl rfl | exact Or.inr rfl) (pe_op op_mod (pe_callTy call_int1 (by rfl) T.int (by decide +kernel) (pa_cons (pe_op op_add (pe_op op_mul (pv 4) (pv 4)) (pv 3)) pa_nil)) pe_int))
      (pss_one (ps_ret (pe_op op_mod (pe_callTy call_int1 (by rfl) T.int (by decide +kernel) (pa_cons (pe_op op_add (pe_op op_add (pe_op op_mul (pv 5) pe_int) (pe_op op_mul (pv 4) pe_int)) (pv 2)) pa_nil)) pe_int))))))))))
   , ?_⟩
  rintro ds M R ⟨d, ns, k, rfl, hd, hk, hk2, hR⟩
  have hL : ∀ (M : MM) (k : List D → Prop), k (ns.map .int) → L1 M d k := fun M k h => by
    rcases hd with rfl | rfl
    · exact l1_lst h
    · exact l1_frz h
  have hLL : ∀ (M : MM) (k : List D → Prop), k (ns.map .int) → LL1 M d k := fun M k h => by
    rcases hd with rfl | rfl
    · exact ll1_lst h
    · exact ll1_frz h
  dsimp only [L2.cxOf, L2.Cx.nox, L2.Cx.wish]
  refine es_seq (es_set (w_int ?_))
  refine es_cut (fun s' => ∃ c : Int, s' = ⟨[some d, some (.int k), some (.int c), none, none, none], M⟩) ?_ ?_
  · walk_at "dl"
    refine hL _ _ ?_
    rw [List.length_map]
    walk_at "dl"
    refine br_dec (fun h => ?_) (fun h => ?_)
    · walk_at "dl"
      refine hL _ _ ?_
      rw [List.length_map]
      walk_at "dl"
      refine hLL _ _ ?_
      walk_at "dl"
      have h1 := Int.emod_nonneg k (show (ns.length : Int) ≠ 0 by omega)
      have h2 := Int.emod_lt_of_pos k h
      obtain ⟨j, hj⟩ : ∃ j : Nat, k % (ns.length : Int) = (j : Int) := ⟨(k % (ns.length : Int)).toNat, by omega⟩
      refine at1 (atI_ints hj (List.getElem?_eq_getElem (by omega))) ?_
      exact ⟨_, rfl⟩
    · walk_at "dl"
      exact ⟨_, rfl⟩
  · rintro _ ⟨c, rfl⟩
    refine es_cut (fun s' => ∃ c : Int, s' = ⟨[some d, some (.int k), some (.int c), none, none, none], M⟩) ?_ ?_
    · walk_at "dl"
      refine br_dec (fun h => ?_) (fun h => ?_)
      · walk_at "dl"
        exact ⟨_, rfl⟩
      · walk_at "dl"
        exact ⟨_, rfl⟩
    · rintro _ ⟨c, rfl⟩
      refine es_cut (fun s' => s' = ⟨[some d, some (.int k), some (.int c), none, none, none], M⟩) ?_ ?_
      · walk_at "dl"
        refine br_dec (fun h => ?_) (fun h => ?_)
        · walk_at "dl"
          refine hL _ _ ?_
          rw [List.length_map]
          walk_at "dl"
          refine br_dec (fun h => ?_) (fun h => ?_)
          · walk_at "dl"
            exact hR _
          · walk_at "dl"
        · walk_at "dl"
      · rintro _ rfl
        walk_at "dl"
        exact hR _
abbrev s_law_take : Stmt := top 27
theorem sc_law_take : FnScope ["box", "size", "digit"] ["box", "size"] (defScope s_law_take) := ⟨rfl, rfl, rfl, by decide +kernel, rfl, by decide +kernel, by decide +kernel⟩
def T_law_take : DSp := fun ds M R => ∃ (b : Addr) (n z : Int), ds = [.adr b, .int z] ∧ M b = some (.lst [.int n]) ∧ 0 < z ∧ z < 1073741824 ∧ ∀ d n' : Int, 0 ≤ d → d < z → R (.int d) (updM M b (.lst [.int n']))
theorem d_law_take (T : Tx K mg Co Cf
) (F : Dl K mg "_law_take" s_law_take) : Df P w K mg base 1 "_law_take" 2 T_law_take := by
  refine F.ok sc_law_take (fun ds M R ⟨n, _, _, e, _⟩ => by rw [e]; rfl) (fun _ _ _ _ _ _ us hl => match us, hl with | [_, _], _ => rfl) fun f cdv A outer s H E hr => ⟨_, (pss_cons (ps_set (i := 2) sc_law_take.nd rfl (by first | exact Or.inl rfl | exact Or.inr rfl) (pe_op op_mod (pe_callTy call_int1 (by rfl) T.int (by decide +kernel) (pa_cons (pe_ix ix_list (pv 0) pe_int (fun _ _ => rfl)) pa_nil)) (pv 1)))
      (pss_cons (ps_asg (pe_op op_fdiv (pe_ix ix_list (pv 0) pe_int (fun _ _ => rfl)) (pv 1)) (pg_sub (pv 0) pe_int set_list))
      (pss_one (ps_ret (pv 2)))))
   , ?_⟩
  rintro ds M R ⟨b, n, z, rfl, hb, h0, h1, hR⟩
  walk_at "go"
  refine at1 rfl ?_
  walk_at "dl"
  refine at1 rfl ?_
  walk_at "dl"
  refine ⟨0, rfl, ?_⟩
  walk_at "dl"
  exact hR _ _ (Int.emod_nonneg _ (by omega)) (Int.emod_lt_of_pos _ h0)

/-! ### what is refused -/
def Bad (os : List Int) : Prop := Oct os ∧ os.length ≤ 1000000 ∧ (((∀ r, os ≠ 4 :: r) ∧ ∀ d, unP os ≠ some (d, os.length)) ∨ (∃ r, os = 4 :: r ∧ r.length < 2) ∨
  ∃ (xs : List It) (n : Nat) (tail : List Int), os = many n ++ (encs xs ++ tail) ∧ (∀ x ∈ xs, x.ok) ∧ xs.length ≤ n ∧ n ≤ 65535 ∧ ((n = xs.length ∧ tail ≠ []) ∨ (xs.length < n ∧ (∀ r, tail ≠ 4 :: r) ∧ unP tail = none)))
theorem bad_T {os : List Int} (h : Bad os) {M : MM} {R : D → MM → Prop} {RX : XC → MM → Prop} (hx : ∀ M', Inc M M' → RX ⟨.ref Co, none⟩ M') : T_unpack Co [dI os] M R RX := by
  obtain ⟨h1, h2, h⟩ := h
  refine ⟨os, rfl, h1, h2, ?_⟩
  rcases h with ⟨h3, h4⟩ | h3 | ⟨xs, n, tail, e, h3, h4, h5, h6⟩
  · exact .inl ⟨h3, fun d e => absurd e (h4 d), fun _ => hx⟩
  · exact .inr (.inl ⟨h3, hx⟩)
  · refine .inr (.inr ⟨xs, n, tail, e, h3, h4, h5, fun e1 e2 => ?_, fun _ _ => hx, fun e1 => ?_⟩)
    · rcases h6 with ⟨_, h7⟩ | ⟨h7, _⟩
      · exact absurd e2 h7
      · omega
    · rcases h6 with ⟨h7, _⟩ | ⟨_, h7, h8⟩
      · omega
      · exact ⟨h7, h8, hx⟩
abbrev s_law_refuses : Stmt := top 31
theorem sc_law_refuses : FnScope ["octets", "e"] ["octets"] (defScope s_law_refuses) := ⟨rfl, rfl, rfl, by decide +kernel, rfl, by decide +kernel, by decide +kernel⟩
def T_law_refuses : DSp := fun ds M R => ∃ os, ds = [dI os] ∧ Bad os ∧ R (.bl true) M
theorem d_law_refuses (T : Tx K mg Co Cf) (F : Dl K mg "_law_refuses" s_law_refuses) (G_unpack : DfX P w K mg base 4 "unpack" 1 (T_unpack Co)) : Df P w K mg base 5 "_law_refuses" 1 T_law_refuses := by
  refine F.ok sc_law_refuses (fun ds M R ⟨_, e, _⟩ => by rw [e]; rfl) (fun _ _ _ _ _ _ us hl => match us, hl with | [_], _ => rfl) fun f cdv A outer s H E hr => ⟨_, (pss_cons (ps_tryA (i := 1) rfl rfl sc_law_refuses.nd rfl rfl ⟨rfl, by decide, .inl T.x_FollowError.g⟩ takes0 (fun W pn xe tk po => by (apply PSs.cast; (case h => exact (pss_one (ps_expr (pe_callX G_unpack (hr.mono (by decide)) tk (by rfl) (pa_cons (pv 0) pa_nil))))); (case q => walk_at "blk"))) (fun a oe cls d pn hz hf => by (apply PSs.cast; (case h => exact (pss_one (ps_ret (pe_callB (call_isX hz hf) (by rfl) T.isinstance (by decide +kernel) (pa_cons (pv 1) (pa_cons (pe_glob (v := .ref _) (by rfl) T.x_Malformed.g rfl) pa_nil)))))); (case q => walk_at "blk"))))
      (pss_one (ps_ret pe_bl)))
   , ?_⟩
  rintro ds M R ⟨os, rfl, hb, hR⟩
  walk_at "go"
  refine es_tryA (fun x s' => x = ⟨.ref Co, none⟩ ∧ s' = ⟨[some (dI os), none], M⟩) (fun W' => ?_) ?_
  · walk_at "dl"
    refine w_callXL ?_
    walk_at "dl"
    exact bad_T hb fun M' hM => ⟨M, hM, rfl, rfl⟩
  · rintro _ _ ⟨rfl, rfl⟩
    refine .inl ⟨T.exm, fun a d hd => ?_⟩
    have hd := hd rfl
    subst hd
    walk_at "dl"
    refine w_isX T.isx T.kit ?_
    walk_at "dl"
    exact ⟨rfl, hR⟩
abbrev s_law_number_of : Stmt := top 28
theorem sc_law_number_of : FnScope ["octets", "found", "k"] ["octets"] (defScope s_law_number_of) := ⟨rfl, rfl, rfl, by decide +kernel, rfl, by decide +kernel, by decide +kernel⟩
def T_law_number_of : DSp := fun ds M R => ∃ os : List Int, ds = [dI os] ∧ os.length ≤ 100000 ∧ R (.int (numOf os)) M
theorem d_law_number_of (T : Tx K mg Co Cf) (F : Dl K mg "_law_number_of" s_law_number_of) : Df P w K mg base 1 "_law_number_of" 1 T_law_number_of := by
  refine F.ok sc_law_number_of (fun ds M R ⟨_, e, _⟩ => by rw [e]; rfl) (fun _ _ _ _ _ _ us hl => match us, hl with | [_], _ => rfl) fun f cdv A outer s H E hr => ⟨_, (pss_cons (ps_set (i := 1) sc_law_number_of.nd rfl (by first | exact Or.inl rfl | exact Or.inr rfl) pe_int)
      (pss_cons (ps_for PassesOwn.never rfl (pi_range1 (by rfl) T.range (pa_cons (pe_callB call_len_seq (by rfl) T.len (by decide +kernel) (pa_cons (pv 0) pa_nil)) pa_nil)) (pg_name (i := 2) sc_law_number_of.nd rfl (by first | exact Or.inl rfl | exact Or.inr rfl))
      (pss_one (ps_set (i := 1) sc_law_number_of.nd rfl (by first | exact Or.inl rfl | exact Or.inr rfl) (pe_op op_add (pe_op op_mul (pv 1) pe_int) (pe_ix ix_list (pv 0) (pe_op op_sub (pe_op op_sub (pe_callB call_len_seq (by rfl) T.len (by decide +kernel) (pa_cons (pv 0) pa_nil)) pe_int) (pv 2)) (fun _ _ => rfl))))))
      (pss_one (ps_ret (pv 1)))))
   , ?_⟩
  rintro ds M R ⟨os, rfl, hl, hR⟩
  walk_at "go"
  rw [List.length_map, Int.toNat_natCast]
  refine lp_range (fun i s' => ∃ x : Option D, i ≤ os.length ∧ s' = ⟨[some (dI os), some (.int (numOf (os.drop (os.length - i)))), x], M⟩) ⟨none, Nat.zero_le _, ?_⟩ ?_ ?_
  · rw [Nat.sub_zero, List.drop_length]; rfl
  · rintro i _ hi ⟨x, hi2, rfl⟩
    have hlt : os.length - (i + 1) < os.length := by omega
    have hat : (os.map D.int)[os.length - (i + 1)]? = some (.int os[os.length - (i + 1)]) := by rw [List.getElem?_map, List.getElem?_eq_getElem hlt]; rfl
    walk_at "dl"
    rw [List.length_map]
    walk_at "dl"
    refine at1o (os.length - (i + 1)) (by omega) hat ?_
    walk_at "dl"
    refine ⟨some (.int (0 + (i : Int))), hi, ?_⟩
    have e : numOf (os.drop (os.length - (i + 1))) = numOf (os.drop (os.length - i)) * 256 + os[os.length - (i + 1)] := by
      rw [List.drop_eq_getElem_cons hlt, numOf_cons, show os.length - (i + 1) + 1 = os.length - i by omega]
    rw [e]
  · rintro _ ⟨x, _, rfl⟩
    walk_at "dl"
    rw [Nat.sub_self, List.drop_zero]
    exact hR
abbrev s_law_text_of : Stmt := top 29
theorem sc_law_text_of : FnScope ["size", "start", "step", "signs", "k"] ["size", "start", "step"] (defScope s_law_text_of) := ⟨rfl, rfl, rfl, by decide +kernel, rfl, by decide +kernel, by decide +kernel⟩
def LS : Str := strOf ((defBody s_law_text_of).getD 0 (.Pass ⟨0, 0, 0, 0⟩))
theorem ls_facts : LS.cps.size = LS.cps.toList.length ∧ LS.cps.size = 92 ∧ ∀ c ∈ LS.cps.toList, okSign c = true := by decide +kernel
def T_law_text_of : DSp := fun ds M R => ∃ (size : Nat) (start step : Int), ds = [.int (size : Int), .int start, .int step] ∧ size ≤ 65535 ∧ (0 ≤ start ∧ start < 10000) ∧ (0 ≤ step ∧ step < 10000) ∧ ∀ cs : List Nat, (It.txt cs).ok → cs.length = size → R (.str ⟨cs.toArray⟩) M
theorem d_law_text_of (T : Tx K mg Co Cf) (F : Dl K mg "_law_text_of" s_law_text_of) : Df P w K mg base 1 "_law_text_of" 3 T_law_text_of := by
  refine F.ok sc_law_text_of (fun ds M R ⟨_, _, _, e, _⟩ => by rw [e]; rfl) (fun _ _ _ _ _ _ us hl => match us, hl with | [_, _, _], _ => rfl) fun f cdv A outer s H E hr => ⟨_, (pss_cons (ps_set (i := 3) sc_law_text_of.nd rfl (by first | exact Or.inl rfl | exact Or.inr rfl) pe_str)
      (pss_one (ps_ret (pe_join pe_str (pe_lc (own := [("k", 4)]) rfl sc_law_text_of.nd (pi_range1 (by rfl) T.range (pa_cons (pv 0) pa_nil)) (blkOk_by (N := ["size", "start", "step", "signs", "k"]) (sc := defScope s_law_text_of) (by decide +kernel)) (fun _ _ _ _ _ => by (apply PG.cast; (case h => exact (pg_name (i := 4) sc_law_text_of.nd rfl (by first | exact Or.inl rfl | exact Or.inr rfl))); (case q => walk_at "blk"))) (fun _ _ _ _ _ => by (apply PTs.cast; (case h => exact pts_nil); (case q => walk_at "blk"))) (fun _ _ _ _ _ => by (apply PE.cast; (case h => exact (pe_ix ix_str (pv 3) (pe_op op_mod (pe_callTy call_int1 (by rfl) T.int (by decide +kernel) (pa_cons (pe_op op_add (pe_op op_add (pv 1) (pe_op op_mul (pv 4) (pv 2))) (pe_op op_fdiv (pv 4) pe_int)) pa_nil)) (pe_callB call_len_str (by rfl) T.len (by decide +kernel) (pa_cons (pv 3) pa_nil))) (fun _ _ => rfl))); (case q => walk_at "blk"))))))))
   , ?_⟩
  rintro ds M R ⟨size, start, step, rfl, hz, hs, ht, hR⟩
  walk_at "go"
  have hcode : ∀ k : Nat, ∃ c : Nat, LS.cps.toList[((start + (k : Int) * step + (k : Int) / 90) % 92).toNat]? = some c ∧ okSign c = true := fun k => by
    have h1 := Int.emod_nonneg (start + (k : Int) * step + (k : Int) / 90) (show (92 : Int) ≠ 0 by decide)
    have h2 := Int.emod_lt_of_pos (start + (k : Int) * step + (k : Int) / 90) (show (0 : Int) < 92 by decide)
    have hlt : ((start + (k : Int) * step + (k : Int) / 90) % 92).toNat < LS.cps.toList.length := by rw [← ls_facts.1, ls_facts.2.1]; omega
    exact ⟨_, List.getElem?_eq_getElem hlt, ls_facts.2.2 _ (List.getElem_mem hlt)⟩
  obtain ⟨cf, hcf⟩ : ∃ cf : Nat → Nat, ∀ k : Nat, LS.cps.toList[((start + (k : Int) * step + (k : Int) / 90) % 92).toNat]? = some (cf k) ∧ okSign (cf k) = true := ⟨fun k => Classical.choose (hcode k), fun k => Classical.choose_spec (hcode k)⟩
  refine ed_lcAx (α := Nat) (fun (k : Nat) => D.int (0 + (k : Int))) (fun k => sgn (cf k)) (wp_name (by decide)) ?_
  walk_at "dl"
  refine ⟨List.range size, by rw [Int.toNat_natCast]; rfl, by rw [List.length_range, sizeLine_eq]; omega, fun k hk M' _ => ?_, ?_⟩
  · rw [List.mem_range] at hk
    walk_at "dl"
    have hLS : LS.length = 92 := ls_facts.2.1
    refine sc (show LS.length ≤ sizeLine by rw [hLS, sizeLine_eq]; omega) ?_
    walk_at "dl"
    refine sc (show (0 : Int) < (LS.length : Int) by rw [hLS]; decide) ?_
    walk_at "dl"
    refine ⟨cf k, ⟨show LS.length ≤ sizeLine by rw [hLS, sizeLine_eq]; omega, ?_⟩, ?_⟩
    · show atI LS.cps.toList ((start + (0 + (k : Int)) * step + (0 + (k : Int)) / 90) % (LS.length : Int)) = some (cf k)
      rw [hLS, Int.zero_add]
      have h1 := Int.emod_nonneg (start + (k : Int) * step + (k : Int) / 90) (show (92 : Int) ≠ 0 by decide)
      exact at_of' (j := ((start + (k : Int) * step + (k : Int) / 90) % 92).toNat) (by show _ % ((92 : Nat) : Int) = _; omega) (hcf k).1
    · exact ⟨rfl, rfl⟩
  · walk_at "dl"
    refine ⟨((List.range size).map cf).map fun c => (⟨#[c]⟩ : Str), .inl ?_, ?_⟩
    · show some _ = some _
      rw [List.map_map, List.map_map]
      rfl
    refine sc ?_ ?_
    · have : ∀ l : List Nat, ((l.map fun c => (⟨#[c]⟩ : Str)).map (·.length)).sum = l.length := fun l => by
        induction l with
        | nil => rfl
        | cons c l ih => rw [List.map_cons, List.map_cons, List.sum_cons, ih]; show 1 + _ = _; rw [List.length_cons]; omega
      rw [this]
      show _ + _ * 0 ≤ _
      simp
      omega
    · rw [join_one]
      refine hR _ ⟨by simp; omega, fun c hc => ?_⟩ (by simp)
      obtain ⟨k, _, rfl⟩ := List.mem_map.mp hc
      exact (hcf k).2
end
end K01

end

section
open PySem L2 Evl DL
local macro_rules | `(tactic| walk_at "blk") => `(tactic| first | exact rfl | (dsimp only [L2.Cx.blk, L2.Cx.tr, L2.Cx.suite, L2.Cx.nox, L2.cxOf, L2.Cx.wish]; done) | (dsimp only [L2.Cx.blk, L2.Cx.tr, L2.Cx.suite, L2.Cx.nox, L2.cxOf, L2.Cx.wish]; exact rfl))
local macro_rules | `(tactic| walk_at "nrm") => `(tactic| dsimp only [startD, List.map_cons, List.map_nil, List.length_cons, List.length_nil, List.replicate, List.set_cons_zero, List.set_cons_succ, List.cons_append, List.nil_append, Nat.reduceAdd, Nat.reduceSub, wipeD])
local macro_rules | `(tactic| walk_at "mm") => `(tactic| first | assumption | exact updM_same | (refine updM_get ?_ ?_ <;> first | assumption | (apply Ne.symm; assumption) | walk_at "mm"))
local macro_rules | `(tactic| walk_at "side") => `(tactic| first | omega | (simp only [List.length_cons, List.length_nil]; done) | (simp only [List.length_cons, List.length_nil, List.length_append, List.length_map, sizeLine_eq]; omega) | exact Or.inr ⟨by omega, by omega⟩ | exact Or.inl ⟨by omega, by omega⟩ | exact And.intro (by omega) (by omega) | exact And.intro (by omega) (And.intro (by omega) (by decide)))
local macro_rules | `(tactic| walk_at "d0") => `(tactic| first
  | ((with_reducible first | show Pd.nx _ _ | show Pd.bk _ _ | show Pd.ct _ _ | show Pd.rt _ _ _); walk_at "nrm")
  | (with_reducible refine' es_set ?_) | (with_reducible refine' es_drop ?_) | (with_reducible refine' es_ret ?_) | (with_reducible refine' w_if ?_) | (with_reducible refine' es_next ?_) | (with_reducible refine' es_break ?_) | (with_reducible refine' es_cont ?_) | (with_reducible refine' es_retN ?_) | (with_reducible refine' es_asg ?_) | (with_reducible refine' es_for ?_) | ((with_reducible refine' w_aug ?hh ?_); (case hh => exact rfl)))
local macro_rules | `(tactic| walk_at "dx") => `(tactic| first
  | ((with_reducible refine' ed_var ?hh ?_); (case hh => exact rfl)) | ((with_reducible refine' w_varF ?hh ?hm ?_); (case hh => exact rfl); (case hm => walk_at "mm"))
  | (with_reducible refine' w_int ?_) | (with_reducible refine' w_str ?_) | (with_reducible refine' w_bl ?_) | (with_reducible refine' w_non ?_) | (with_reducible refine' w_add ?_) | (with_reducible refine' w_sub ?_) | (with_reducible refine' w_mul ?_) | (with_reducible refine' w_mulW ?_) | (with_reducible refine' w_mod ?_) | (with_reducible refine' w_fdiv ?_) | (with_reducible refine' w_fdivW ?_) | (with_reducible refine' w_pow ?_) | (with_reducible refine' w_neg ?_) | (with_reducible refine' w_lt ?_) | (with_reducible refine' w_le ?_) | (with_reducible refine' w_gt ?_) | (with_reducible refine' w_ge ?_) | (with_reducible refine' w_eq ?_) | (with_reducible refine' w_ne ?_) | (with_reducible refine' w_isN ?_) | (with_reducible refine' w_notN ?_) | (with_reducible refine' w_andV ?_) | (with_reducible refine' w_orV ?_) | (with_reducible refine' w_notV ?_) | (with_reducible refine' w_ife ?_) | (with_reducible refine' w_lst ?_) | (with_reducible refine' w_lstM ?_) | (with_reducible refine' w_tup ?_) | (with_reducible refine' w_ixL ?_) | (with_reducible refine' w_ixT ?_) | (with_reducible refine' w_slL ?_) | (with_reducible refine' w_cat ?_) | (with_reducible refine' w_len ?_) | (with_reducible refine' w_list ?_) | (with_reducible refine' w_app ?_) | (with_reducible refine' w_ext ?_) | (with_reducible refine' w_pop ?_) | (with_reducible refine' w_call ?_) | (with_reducible refine' w_eqD ?_) | (with_reducible refine' w_neD ?_))
local macro_rules | `(tactic| walk_at "dt") => `(tactic| first
  | (with_reducible refine' w_test ?_) | (with_reducible refine' w_B ?_) | (with_reducible refine' w_and ?_) | (with_reducible refine' w_or ?_) | (with_reducible refine' w_not ?_) | (with_reducible refine' et_yes ?_) | (with_reducible refine' ea_nil ?_) | (with_reducible refine' ea_cons ?_) | (with_reducible refine' eo_none ?_) | (with_reducible refine' w_part ?_) | (with_reducible refine' eg_name ?_) | (with_reducible refine' w_setM ?_) | (with_reducible refine' w_tupT ?_) | (with_reducible refine' egs_nil ?_) | (with_reducible refine' egs_cons ?_) | (with_reducible refine' w_iL ?_) | (with_reducible refine' w_iT ?_) | (with_reducible refine' w_iR1 ?_) | (with_reducible refine' w_iR2 ?_) | (with_reducible refine' w_iRev ?_))
local macro_rules | `(tactic| walk_at "dw") => `(tactic| first
  | (with_reducible refine' i1 ?_) | (with_reducible refine' i2 ?_) | (with_reducible refine' s1 ?_) | (with_reducible refine' s2 ?_) | (with_reducible refine' b1 ?_) | (with_reducible refine' l1_lst ?_) | (with_reducible refine' l1_frz ?_) | (with_reducible refine' l1_tup ?_) | (with_reducible refine' ll1_lst ?_) | (with_reducible refine' ll1_frz ?_) | (with_reducible refine' f1_lst ?_) | (with_reducible refine' f1_frz ?_) | (with_reducible refine' t1 ?_) | (with_reducible refine' n1 ?_) | (with_reducible refine' e2_int ?_) | (with_reducible refine' e2_str ?_) | (with_reducible refine' e2_bl ?_) | (with_reducible refine' br_not ?_) | (with_reducible refine' br_true ?_) | (with_reducible refine' br_false ?_)
  | ((with_reducible refine' sc ?hh ?_); (case hh => walk_at "side")) | ((with_reducible refine' l1_adr ?hm ?_); (case hm => walk_at "mm")) | ((with_reducible refine' ll1_adr ?hm ?_); (case hm => walk_at "mm")) | ((with_reducible refine' m1 ?hm ?_); (case hm => walk_at "mm")) | ((with_reducible refine' g1 ?hm ?_); (case hm => walk_at "mm"))
  | ((with_reducible refine' br_pos ?hh ?_); (case hh => omega)) | ((with_reducible refine' br_neg ?hh ?_); (case hh => omega)))
local macro_rules | `(tactic| walk_at "dy") => `(tactic| first
  | (with_reducible refine' w_raise ?_) | (with_reducible refine' w_isI ?_) | (with_reducible refine' w_gtD ?_) | (with_reducible refine' w_ltD ?_) | (with_reducible refine' w_leD ?_) | (with_reducible refine' w_geD ?_) | (with_reducible refine' w_mulS ?_) | (with_reducible refine' w_addS ?_) | (with_reducible refine' w_catT ?_) | (with_reducible refine' w_max2 ?_) | (with_reducible refine' w_min2 ?_) | (with_reducible refine' w_intX ?_) | (with_reducible refine' w_slM ?_) | (with_reducible refine' w_iR3 ?_) | (with_reducible refine' bn_non ?_) | (with_reducible refine' bn_int ?_) | (with_reducible refine' bn_str ?_) | (with_reducible refine' bn_bl ?_) | (with_reducible refine' bn_lst ?_) | (with_reducible refine' bn_frz ?_) | (with_reducible refine' bn_tup ?_) | (with_reducible refine' bn_adr ?_) | (with_reducible refine' ib_int ?_) | (with_reducible refine' ib_bl ?_) | (with_reducible refine' i3 ?_) | (with_reducible refine' DL.s2 ?_)
  | ((with_reducible refine' is_yes ?hh ?_); (case hh => (dsimp only [tyN]; decide +kernel))) | ((with_reducible refine' is_no ?hh ?_); (case hh => (dsimp only [tyN]; decide +kernel))))
local macro_rules | `(tactic| walk_at "dz") => `(tactic| first
  | (with_reducible refine' es_nextE ?_) | (with_reducible refine' w_tru ?_) | (with_reducible refine' tr_lst ?_) | (with_reducible refine' tr_frz ?_) | (with_reducible refine' tr_tup ?_) | (with_reducible refine' tr_bl ?_) | (with_reducible refine' tr_non ?_) | (with_reducible refine' tr_int ?_) | (with_reducible refine' w_inS ?_) | (with_reducible refine' w_ninS ?_) | (with_reducible refine' w_iS ?_) | (with_reducible refine' w_ordc ?_) | (with_reducible refine' w_abs ?_) | (with_reducible refine' w_lenS ?_) | (with_reducible refine' w_ixS ?_) | (with_reducible refine' w_join ?_) | (with_reducible refine' w_tupOf ?_) | (with_reducible refine' w_listRev ?_) | (with_reducible refine' w_unl ?_) | (with_reducible refine' w_chain ?_)
  | ((with_reducible refine' tr_adr ?hm ?_); (case hm => walk_at "mm")))
local macro_rules | `(tactic| walk_at "dm") => `(tactic| repeat (first | walk_at "dw" | walk_at "dx" | walk_at "dt" | walk_at "d0" | walk_at "dy" | walk_at "dz"))
local macro_rules | `(tactic| walk_at "dl") => `(tactic| repeat (first | walk_at "dw" | walk_at "dx" | walk_at "dt" | walk_at "d0" | walk_at "dy" | walk_at "dz" | (with_reducible refine' es_seq ?_)))
local macro_rules | `(tactic| walk_at "go") => `(tactic| ((try dsimp only [L2.cxOf, L2.Cx.nox, L2.Cx.wish]); walk_at "dl"))

namespace K01
section
variable {P : Program} {w : World} {K : PySem.W.Frag} {mg : Str → Option Value} {base : Heap} {Co Cf : Addr}
abbrev s_law_case_of : Stmt := top 30
theorem sc_law_case_of : FnScope ["kind", "size", "start", "step", "octets", "head", "text", "items", "one", "k", "sign"] ["kind", "size", "start", "step"] (defScope s_law_case_of) := ⟨rfl, rfl, rfl, by decide +kernel, rfl, by decide +kernel, by decide +kernel⟩
inductive Case : Nat → Nat → D → List Int → List Int → Prop
  | num (neg : Bool) (os : List Int) (h : (It.num neg os).ok) : Case (if neg = true then 1 else 0) os.length (It.num neg os).d [1 + ((if neg = true then 1 else 0 : Nat) : Int), (os.length : Int)] os
  | txt (cs : List Nat) (h : (It.txt cs).ok) : Case 2 cs.length (It.txt cs).d [3, (cs.length : Int) % 256, (cs.length : Int) / 256] (cs.map fun (c : Nat) => (c : Int))
  | tup (xs : List It) (h : ∀ x ∈ xs, x.ok) (h2 : xs.length ≤ 65535) (h3 : (encs xs).length ≤ 3 * xs.length) (h4 : ∀ x ∈ xs, ∀ cs, x ≠ .txt cs) : Case 3 xs.length (.tup (xs.map It.d)) [4, (xs.length : Int) % 256, (xs.length : Int) / 256] (encs xs)
def numIt (v : Int) : It := .num false (if v = 0 then [] else [v])
theorem numIt_d (v : Int) : (numIt v).d = .int v := by
  unfold numIt
  by_cases h : v = 0
  · rw [if_pos h, h]; rfl
  · rw [if_neg h]
    simp [It.d, numOf]
theorem numIt_ok {v : Int} (h : 0 ≤ v ∧ v < 256) : (numIt v).ok := by
  unfold numIt
  by_cases h0 : v = 0
  · rw [if_pos h0]
    exact ⟨⟨fun o ho => absurd ho List.not_mem_nil, by simp⟩, by simp, fun z => by cases z⟩
  · rw [if_neg h0]
    refine ⟨⟨fun o ho => ?_, ?_⟩, by simp, fun z => by cases z⟩
    · rw [List.mem_singleton] at ho; rw [ho]; exact h
    · simp only [List.getLast?_singleton, ne_eq, Option.some.injEq]; exact h0
theorem encs_le3 : ∀ {xs : List It}, (∀ x ∈ xs, x.enc.length ≤ 3) → (encs xs).length ≤ 3 * xs.length
  | [], _ => by simp [encs]
  | x :: xs, h => by
    have h1 := h x List.mem_cons_self
    have h2 := encs_le3 (xs := xs) fun y hy => h y (List.mem_cons_of_mem _ hy)
    rw [encs_cons, List.length_append, List.length_cons]
    omega
def T_law_case_of : DSp := fun ds M R => ∃ (kind size : Nat) (start step : Int), ds = [.int (kind : Int), .int (size : Int), .int start, .int step] ∧ kind ≤ 3 ∧ size ≤ 65535 ∧ (kind < 2 → size ≤ 255 ∧ kind ≤ size) ∧ (0 ≤ start ∧ start < 10000) ∧ (0 ≤ step ∧ step < 10000) ∧
  ∀ d head body M', Case kind size d head body → Inc M M' → R (.lst [d, dI head, dI body]) M'
theorem d_law_case_of (T : Tx K mg Co Cf) (F : Dl K mg "_law_case_of" s_law_case_of) (G_law_number_of : Df P w K mg base 1 "_law_number_of" 1 T_law_number_of) (G_law_text_of : Df P w K mg base 1 "_law_text_of" 3 T_law_text_of) : Df P w K mg base 2 "_law_case_of" 4 T_law_case_of := by
  refine F.ok sc_law_case_of (fun ds M R ⟨_, _, _, _, e, _⟩ => by rw [e]; rfl) (fun _ _ _ _ _ _ us hl => match us, hl with | [_, _, _, _], _ => rfl) fun f cdv A outer s H E hr => ⟨_, (pss_cons (ps_if (pt_cmpR op_lt (pv 0) pe_int (nomark _))
      (pss_cons (ps_setLcM (ps_setLc (i := 4) (own := [("k", 9)]) rfl sc_law_case_of.nd rfl rfl (sw_true rfl rfl rfl (by decide +kernel)) (pi_range1 (by rfl) T.range (pa_cons (pv 1) pa_nil)) (blkOk_by (N := ["kind", "size", "start", "step", "octets", "head", "text", "items", "one", "k", "sign"]) (sc := defScope s_law_case_of) (by decide +kernel)) (fun _ _ _ _ _ => by (apply PG.cast; (case h => exact (pg_name (i := 9) sc_law_case_of.nd rfl (by first | exact Or.inl rfl | exact Or.inr rfl))); (case q => walk_at "blk"))) (fun _ _ _ _ _ => by (apply PTs.cast; (case h => exact pts_nil); (case q => walk_at "blk"))) (fun _ _ _ _ _ => by (apply PE.cast; (case h => exact (pe_op op_mod (pe_callTy call_int1 (by rfl) T.int (by decide +kernel) (pa_cons (pe_op op_add (pv 2) (pe_op op_mul (pv 9) (pv 3))) pa_nil)) pe_int)); (case q => walk_at "blk")))))
      (pss_cons (ps_if (pt_cmpR op_gt (pv 1) pe_int (nomark _))
      (pss_one (ps_asg (pe_op op_add pe_int (pe_op op_mod (pe_callTy call_int1 (by rfl) T.int (by decide +kernel) (pa_cons (pv 2) pa_nil)) pe_int)) (pg_sub (pv 4) (pe_op op_sub (pv 1) pe_int) set_list)))
      pss_nil)
      (pss_one (ps_ret (pe_lst (pa_cons (pe_op op_mul (pe_ix ix_list (pe_lst (pa_cons pe_int (pa_cons (pe_un un_neg pe_int) pa_nil))) (pv 0) (fun _ _ => rfl)) (pe_callD G_law_number_of (hr.mono (by decide)) (by rfl) (pa_cons (pvF 4) pa_nil))) (pa_cons (pe_lst (pa_cons (pe_op op_add pe_int (pv 0)) (pa_cons (pv 1) pa_nil))) (pa_cons (pv 4) pa_nil))))))))
      pss_nil)
      (pss_cons (ps_set (i := 5) sc_law_case_of.nd rfl (by first | exact Or.inl rfl | exact Or.inr rfl) (pe_lst (pa_cons (pe_op op_add pe_int (pv 0)) (pa_cons (pe_op op_mod (pe_callTy call_int1 (by rfl) T.int (by decide +kernel) (pa_cons (pv 1) pa_nil)) pe_int) (pa_cons (pe_op op_fdiv (pv 1) pe_int) pa_nil)))))
      (pss_cons (ps_if (pt_cmpR op_eq (pv 0) pe_int (nomark _))
      (pss_cons (ps_set (i := 6) sc_law_case_of.nd rfl (by first | exact Or.inl rfl | exact Or.inr rfl) (pe_callD G_law_text_of (hr.mono (by decide)) (by rfl) (pa_cons (pv 1) (pa_cons (pv 2) (pa_cons (pv 3) pa_nil)))))
      (pss_one (ps_ret (pe_lst (pa_cons (pv 6) (pa_cons (pv 5) (pa_cons (pe_lc (own := [("sign", 10)]) rfl sc_law_case_of.nd (pi_str (pv 6)) (blkOk_by (N := ["kind", "size", "start", "step", "octets", "head", "text", "items", "one", "k", "sign"]) (sc := defScope s_law_case_of) (by decide +kernel)) (fun _ _ _ _ _ => by (apply PG.cast; (case h => exact (pg_name (i := 10) sc_law_case_of.nd rfl (by first | exact Or.inl rfl | exact Or.inr rfl))); (case q => walk_at "blk"))) (fun _ _ _ _ _ => by (apply PTs.cast; (case h => exact pts_nil); (case q => walk_at "blk"))) (fun _ _ _ _ _ => by (apply PE.cast; (case h => exact (pe_callB call_ord (by rfl) T.ord (by decide +kernel) (pa_cons (pv 10) pa_nil))); (case q => walk_at "blk")))) pa_nil)))))))
      pss_nil)
      (pss_cons (ps_setLc (i := 7) (own := [("k", 9)]) rfl sc_law_case_of.nd rfl rfl (sw_true rfl rfl rfl (by decide +kernel)) (pi_range1 (by rfl) T.range (pa_cons (pv 1) pa_nil)) (blkOk_by (N := ["kind", "size", "start", "step", "octets", "head", "text", "items", "one", "k", "sign"]) (sc := defScope s_law_case_of) (by decide +kernel)) (fun _ _ _ _ _ => by (apply PG.cast; (case h => exact (pg_name (i := 9) sc_law_case_of.nd rfl (by first | exact Or.inl rfl | exact Or.inr rfl))); (case q => walk_at "blk"))) (fun _ _ _ _ _ => by (apply PTs.cast; (case h => exact pts_nil); (case q => walk_at "blk"))) (fun _ _ _ _ _ => by (apply PE.cast; (case h => exact (pe_ix ix_list (pe_lst (pa_cons pe_non (pa_cons (pe_op op_mod (pe_callTy call_int1 (by rfl) T.int (by decide +kernel) (pa_cons (pe_op op_add (pv 2) (pv 9)) pa_nil)) pe_int) pa_nil))) (pe_op op_mod (pe_callTy call_int1 (by rfl) T.int (by decide +kernel) (pa_cons (pe_op op_add (pe_op op_mul (pv 9) (pv 3)) (pv 2)) pa_nil)) pe_int) (fun _ _ => rfl))); (case q => walk_at "blk"))))
      (pss_cons (ps_set (i := 4) sc_law_case_of.nd rfl (by first | exact Or.inl rfl | exact Or.inr rfl) (pe_lstM pa_nil))
      (pss_cons (ps_for PassesOwn.never rfl (pi_list (pv 7)) (pg_name (i := 8) sc_law_case_of.nd rfl (by first | exact Or.inl rfl | exact Or.inr rfl))
      (pss_one (ps_if (pt_cmp (pc_isN (pv 8)))
      (pss_one (ps_expr (pe_bm PySem.F.plainAttrs_list PySem.F.slot_list_append PySem.F.type_list_append mt_append (pv 4) (pa_cons pe_int pa_nil))))
      (pss_one (ps_if (pt_cmpR op_eq (pv 8) pe_int (nomark _))
      (pss_one (ps_expr (pe_bm PySem.F.plainAttrs_list PySem.F.slot_list_extend PySem.F.type_list_extend mt_extend (pv 4) (pa_cons (pe_lst (pa_cons pe_int (pa_cons pe_int pa_nil))) pa_nil))))
      (pss_one (ps_expr (pe_bm PySem.F.plainAttrs_list PySem.F.slot_list_extend PySem.F.type_list_extend mt_extend (pv 4) (pa_cons (pe_lst (pa_cons pe_int (pa_cons pe_int (pa_cons (pv 8) pa_nil)))) pa_nil)))))))))
      (pss_one (ps_ret (pe_lst (pa_cons (pe_callTy call_tuple_of (by rfl) T.tuple (by decide +kernel) (pa_cons (pv 7) pa_nil)) (pa_cons (pv 5) (pa_cons (pvF 4) pa_nil))))))))))))
   , ?_⟩
  rintro ds M R ⟨kind, size, start, step, rfl, hk, hz, hk2, hs, ht, hR⟩
  walk_at "go"
  refine br_dec (fun hk0 => ?_) (fun hk0 => ?_)
  · obtain ⟨hz2, hz3⟩ := hk2 (by omega)
    walk_at "dl"
    refine ed_lcmA (α := Nat) (fun (k : Nat) => D.int (0 + (k : Int))) (fun (k : Nat) => D.int ((start + (0 + (k : Int)) * step) % 256)) (wp_name (by decide)) ?_
    walk_at "dl"
    refine ⟨List.range size, by rw [Int.toNat_natCast]; rfl, by rw [List.length_range, sizeLine_eq]; omega, fun k hk M' _ => ?_, fun p hp => ?_⟩
    · rw [List.mem_range] at hk
      walk_at "dl"
      exact ⟨rfl, rfl⟩
    have hp : M p = none := hp
    have hos0 : ∃ os0 : List Int, Oct os0 ∧ os0.length = size ∧ (List.range size).map (fun (k : Nat) => D.int ((start + (0 + (k : Int)) * step) % 256)) = os0.map D.int := by
      refine ⟨(List.range size).map fun (k : Nat) => (start + (0 + (k : Int)) * step) % 256, fun o ho => ?_, by simp, by rw [List.map_map]; rfl⟩
      obtain ⟨k, _, rfl⟩ := List.mem_map.mp ho
      exact ⟨Int.emod_nonneg _ (by decide), Int.emod_lt_of_pos _ (by decide)⟩
    obtain ⟨os0, ho0, hl0, e0⟩ := hos0
    rw [e0]
    have hos : ∃ os : List Int, Tidy os ∧ os.length = size ∧ (size = 0 → os = os0) ∧ (0 < size → os = os0.set (size - 1) (1 + start % 255)) := by
      by_cases h0 : size = 0
      · refine ⟨os0, ⟨ho0, fun z => ?_⟩, hl0, fun _ => rfl, fun z => by omega⟩
        have := List.eq_nil_of_length_eq_zero (hl0.trans h0)
        subst this
        cases z
      · have hv : 0 < 1 + start % 255 ∧ 1 + start % 255 < 256 := by omega
        refine ⟨os0.set (size - 1) (1 + start % 255), ⟨fun o ho => ?_, fun z => ?_⟩, by rw [List.length_set]; exact hl0, fun z => absurd z h0, fun _ => rfl⟩
        · rcases List.mem_or_eq_of_mem_set ho with h | h
          · exact ho0 o h
          · rw [h]; omega
        · rw [List.getLast?_eq_getElem?, List.length_set, hl0, List.getElem?_set_self (by omega)] at z
          have := Option.some.inj z
          omega
    obtain ⟨os, hos, hosl, hos1, hos2⟩ := hos
    walk_at "dm"
    refine es_cut (fun s' => s' = ⟨[some (.int (kind : Int)), some (.int (size : Int)), some (.int start), some (.int step), some (.adr p), none, none, none, none, none, none], updM M p (.lst (os.map .int))⟩) ?_ ?_
    · walk_at "dl"
      refine br_dec (fun h0 => ?_) (fun h0 => ?_)
      · walk_at "dl"
        refine ⟨size - 1, ?_, ?_⟩
        · rw [List.length_map, hl0, show (size : Int) - 1 = ((size - 1 : Nat) : Int) by omega]
          exact ixN_nat (by omega)
        walk_at "dl"
        rw [updM_updM, hos2 (by omega), List.map_set]
        rfl
      · walk_at "dl"
        rw [hos1 (by omega)]
        rfl
    rintro _ rfl
    have hnum : ∀ (neg : Bool), (It.num neg os).ok ∨ (neg = true ∧ os = []) := fun neg => by
      by_cases h : neg = true ∧ os = []
      · exact .inr h
      · exact .inl ⟨hos, by omega, fun h1 h2 => h ⟨h1, h2⟩⟩
    obtain rfl | rfl : kind = 0 ∨ kind = 1 := by omega
    · walk_at "dl"
      refine at1o 0 rfl rfl ?_
      walk_at "dl"
      refine ⟨os, rfl, by omega, ?_⟩
      walk_at "dl"
      have h := hR _ _ _ (delM (updM M p (.lst (os.map .int))) p) (hosl ▸ Case.num false os ⟨hos, by omega, fun z => by cases z⟩) ((Inc.refl M).upd hp |>.del hp)
      rw [Int.one_mul]
      exact h
    · walk_at "dl"
      refine at1o 1 rfl rfl ?_
      walk_at "dl"
      refine ⟨os, rfl, by omega, ?_⟩
      walk_at "dl"
      have h := hR _ _ _ (delM (updM M p (.lst (os.map .int))) p) (hosl ▸ Case.num true os ⟨hos, by omega, fun _ z => by rw [z] at hosl; simp at hosl; omega⟩) ((Inc.refl M).upd hp |>.del hp)
      rw [show -1 * numOf os = -numOf os by omega]
      exact h
  · walk_at "dl"
    refine br_dec (fun hk1 => ?_) (fun hk1 => ?_)
    · obtain rfl : kind = 2 := by omega
      walk_at "dl"
      refine ⟨size, start, step, rfl, hz, hs, ht, fun cs hcs hcl => ?_⟩
      walk_at "dl"
      refine ed_lcAx (α := Nat) sgn (fun (c : Nat) => .int (c : Int)) (wp_name (by decide)) ?_
      walk_at "dl"
      refine ⟨cs, by simp [signsD], by rw [sizeLine_eq]; omega, fun c _ M' _ => ?_, ?_⟩
      · walk_at "dl"
        refine sc rfl ?_
        exact ⟨rfl, rfl⟩
      walk_at "dl"
      subst hcl
      have h := hR _ _ _ M (Case.txt cs hcs) (Inc.refl M)
      unfold dI at h
      rw [List.map_map] at h
      exact h
    · obtain rfl : kind = 3 := by omega
      walk_at "dl"
      refine ed_lcAx (α := Nat) (fun (k : Nat) => D.int (0 + (k : Int))) (fun (k : Nat) => (if ((k : Int) * step + start) % 2 = 0 then It.non else numIt ((start + (k : Int)) % 256)).d) (wp_name (by decide)) ?_
      walk_at "dl"
      refine ⟨List.range size, by rw [Int.toNat_natCast]; rfl, by rw [List.length_range, sizeLine_eq]; omega, fun k hk M' _ => ?_, ?_⟩
      · rw [List.mem_range] at hk
        walk_at "dl"
        rw [Int.zero_add]
        by_cases h0 : ((k : Int) * step + start) % 2 = 0
        · rw [if_pos h0, h0]
          refine at1o 0 rfl rfl ?_
          exact ⟨rfl, rfl⟩
        · rw [if_neg h0, show ((k : Int) * step + start) % 2 = 1 by omega]
          refine at1o 1 rfl rfl ?_
          exact ⟨rfl, (numIt_d _).symm⟩
      walk_at "dl"
      intro p hp
      have hp : M p = none := hp
      obtain ⟨xs, hxs⟩ : ∃ xs : List It, xs = (List.range size).map fun (k : Nat) => if ((k : Int) * step + start) % 2 = 0 then It.non else numIt ((start + (k : Int)) % 256) := ⟨_, rfl⟩
      have hxl : xs.length = size := by rw [hxs]; simp
      have hxe : (List.range size).map (fun (k : Nat) => (if ((k : Int) * step + start) % 2 = 0 then It.non else numIt ((start + (k : Int)) % 256)).d) = xs.map It.d := by rw [hxs, List.map_map]; rfl
      have hxv : ∀ x ∈ xs, x = .non ∨ ∃ v : Int, (0 ≤ v ∧ v < 256) ∧ x = numIt v := fun x hx => by
        rw [hxs] at hx
        obtain ⟨k, _, rfl⟩ := List.mem_map.mp hx
        by_cases h0 : ((k : Int) * step + start) % 2 = 0
        · exact .inl (if_pos h0)
        · exact .inr ⟨(start + (k : Int)) % 256, ⟨Int.emod_nonneg _ (by decide), Int.emod_lt_of_pos _ (by decide)⟩, if_neg h0⟩
      clear hxs
      rw [hxe]
      have hnl : ∀ v : Int, (numIt v).enc.length ≤ 3 := fun v => by unfold numIt; split <;> simp [It.enc]
      have hcase : Case 3 xs.length (.tup (xs.map It.d)) [4, (xs.length : Int) % 256, (xs.length : Int) / 256] (encs xs) := by
        refine Case.tup xs (fun x hx => ?_) (by omega) (encs_le3 fun x hx => ?_) (fun x hx cs z => ?_)
        · rcases hxv x hx with rfl | ⟨v, hv, rfl⟩
          · exact True.intro
          · exact numIt_ok hv
        · rcases hxv x hx with rfl | ⟨v, hv, rfl⟩
          · simp [It.enc]
          · exact hnl v
        · rcases hxv x hx with rfl | ⟨v, hv, rfl⟩
          · cases z
          · unfold numIt at z; cases z
      rw [hxl] at hcase
      walk_at "dl"
      refine lp_inv (fun j s' => ∃ x : Option D, j ≤ xs.length ∧ s' = ⟨[some (.int ((3 : Nat) : Int)), some (.int (size : Int)), some (.int start), some (.int step), some (.adr p), some (.lst [.int (1 + ((3 : Nat) : Int)), .int ((size : Int) % 256), .int ((size : Int) / 256)]), none, some (.lst (xs.map It.d)), x, none, none], updM M p (.lst ((encs (xs.take j)).map .int))⟩) ⟨none, Nat.zero_le _, rfl⟩ ?_ ?_
      · rintro j x _ hx ⟨y, hj, rfl⟩
        rw [List.getElem?_map] at hx
        obtain ⟨u, hu, rfl⟩ := Option.map_eq_some_iff.mp hx
        have hjl : j < xs.length := (List.getElem?_eq_some_iff.mp hu).1
        have hue : u ∈ xs := List.mem_of_getElem? hu
        have e1 : encs (xs.take (j + 1)) = encs (xs.take j) ++ u.enc := by
          rw [List.take_add_one, hu, encs_append]
          simp [encs]
        have hel : (encs (xs.take j)).length ≤ 3 * 65535 := by
          have h1 := encs_le3 (xs := xs.take j) fun x hx => by
            rcases hxv x (List.mem_of_mem_take hx) with rfl | ⟨v, hv, rfl⟩
            · simp [It.enc]
            · exact hnl v
          rw [List.length_take] at h1
          omega
        rcases hxv u hue with rfl | ⟨v, hv, rfl⟩
        · dsimp only [It.d]
          walk_at "dl"
          rw [e1, updM_updM, List.map_append]
          exact ⟨_, hjl, rfl⟩
        · rw [numIt_d]
          walk_at "dl"
          refine br_dec (fun h0 => ?_) (fun h0 => ?_)
          · walk_at "dl"
            rw [e1, updM_updM, List.map_append, h0]
            exact ⟨_, hjl, rfl⟩
          · walk_at "dl"
            rw [e1, updM_updM, List.map_append]
            refine ⟨some (.int v), hjl, ?_⟩
            unfold numIt
            rw [if_neg h0]
            rfl
      · rintro _ ⟨y, _, rfl⟩
        walk_at "dl"
        rw [List.length_map, List.take_length]
        exact hR _ _ _ _ hcase ((Inc.refl M).upd hp |>.del hp)
end
end K01

end

section
open PySem L2 Evl DL
local macro_rules | `(tactic| walk_at "blk") => `(tactic| first | exact rfl | (dsimp only [L2.Cx.blk, L2.Cx.tr, L2.Cx.suite, L2.Cx.nox, L2.cxOf, L2.Cx.wish]; done) | (dsimp only [L2.Cx.blk, L2.Cx.tr, L2.Cx.suite, L2.Cx.nox, L2.cxOf, L2.Cx.wish]; exact rfl))
local macro_rules | `(tactic| walk_at "nrm") => `(tactic| dsimp only [startD, List.map_cons, List.map_nil, List.length_cons, List.length_nil, List.replicate, List.set_cons_zero, List.set_cons_succ, List.cons_append, List.nil_append, Nat.reduceAdd, Nat.reduceSub, wipeD])
local macro_rules | `(tactic| walk_at "mm") => `(tactic| first | assumption | exact updM_same | (refine updM_get ?_ ?_ <;> first | assumption | (apply Ne.symm; assumption) | walk_at "mm"))
local macro_rules | `(tactic| walk_at "side") => `(tactic| first | omega | (simp only [List.length_cons, List.length_nil]; done) | (simp only [List.length_cons, List.length_nil, List.length_append, List.length_map, sizeLine_eq]; omega) | exact Or.inr ⟨by omega, by omega⟩ | exact Or.inl ⟨by omega, by omega⟩ | exact And.intro (by omega) (by omega) | exact And.intro (by omega) (And.intro (by omega) (by decide)))
local macro_rules | `(tactic| walk_at "d0") => `(tactic| first
  | ((with_reducible first | show Pd.nx _ _ | show Pd.bk _ _ | show Pd.ct _ _ | show Pd.rt _ _ _); walk_at "nrm")
  | (with_reducible refine' es_set ?_) | (with_reducible refine' es_drop ?_) | (with_reducible refine' es_ret ?_) | (with_reducible refine' w_if ?_) | (with_reducible refine' es_next ?_) | (with_reducible refine' es_break ?_) | (with_reducible refine' es_cont ?_) | (with_reducible refine' es_retN ?_) | (with_reducible refine' es_asg ?_) | (with_reducible refine' es_for ?_) | ((with_reducible refine' w_aug ?hh ?_); (case hh => exact rfl)))
local macro_rules | `(tactic| walk_at "dx") => `(tactic| first
  | ((with_reducible refine' ed_var ?hh ?_); (case hh => exact rfl)) | ((with_reducible refine' w_varF ?hh ?hm ?_); (case hh => exact rfl); (case hm => walk_at "mm"))
  | (with_reducible refine' w_int ?_) | (with_reducible refine' w_str ?_) | (with_reducible refine' w_bl ?_) | (with_reducible refine' w_non ?_) | (with_reducible refine' w_add ?_) | (with_reducible refine' w_sub ?_) | (with_reducible refine' w_mul ?_) | (with_reducible refine' w_mulW ?_) | (with_reducible refine' w_mod ?_) | (with_reducible refine' w_fdiv ?_) | (with_reducible refine' w_fdivW ?_) | (with_reducible refine' w_pow ?_) | (with_reducible refine' w_neg ?_) | (with_reducible refine' w_lt ?_) | (with_reducible refine' w_le ?_) | (with_reducible refine' w_gt ?_) | (with_reducible refine' w_ge ?_) | (with_reducible refine' w_eq ?_) | (with_reducible refine' w_ne ?_) | (with_reducible refine' w_isN ?_) | (with_reducible refine' w_notN ?_) | (with_reducible refine' w_andV ?_) | (with_reducible refine' w_orV ?_) | (with_reducible refine' w_notV ?_) | (with_reducible refine' w_ife ?_) | (with_reducible refine' w_lst ?_) | (with_reducible refine' w_lstM ?_) | (with_reducible refine' w_tup ?_) | (with_reducible refine' w_ixL ?_) | (with_reducible refine' w_ixT ?_) | (with_reducible refine' w_slL ?_) | (with_reducible refine' w_cat ?_) | (with_reducible refine' w_len ?_) | (with_reducible refine' w_list ?_) | (with_reducible refine' w_app ?_) | (with_reducible refine' w_ext ?_) | (with_reducible refine' w_pop ?_) | (with_reducible refine' w_call ?_) | (with_reducible refine' w_eqD ?_) | (with_reducible refine' w_neD ?_))
local macro_rules | `(tactic| walk_at "dt") => `(tactic| first
  | (with_reducible refine' w_test ?_) | (with_reducible refine' w_B ?_) | (with_reducible refine' w_and ?_) | (with_reducible refine' w_or ?_) | (with_reducible refine' w_not ?_) | (with_reducible refine' et_yes ?_) | (with_reducible refine' ea_nil ?_) | (with_reducible refine' ea_cons ?_) | (with_reducible refine' eo_none ?_) | (with_reducible refine' w_part ?_) | (with_reducible refine' eg_name ?_) | (with_reducible refine' w_setM ?_) | (with_reducible refine' w_tupT ?_) | (with_reducible refine' egs_nil ?_) | (with_reducible refine' egs_cons ?_) | (with_reducible refine' w_iL ?_) | (with_reducible refine' w_iT ?_) | (with_reducible refine' w_iR1 ?_) | (with_reducible refine' w_iR2 ?_) | (with_reducible refine' w_iRev ?_))
local macro_rules | `(tactic| walk_at "dw") => `(tactic| first
  | (with_reducible refine' i1 ?_) | (with_reducible refine' i2 ?_) | (with_reducible refine' s1 ?_) | (with_reducible refine' s2 ?_) | (with_reducible refine' b1 ?_) | (with_reducible refine' l1_lst ?_) | (with_reducible refine' l1_frz ?_) | (with_reducible refine' l1_tup ?_) | (with_reducible refine' ll1_lst ?_) | (with_reducible refine' ll1_frz ?_) | (with_reducible refine' f1_lst ?_) | (with_reducible refine' f1_frz ?_) | (with_reducible refine' t1 ?_) | (with_reducible refine' n1 ?_) | (with_reducible refine' e2_int ?_) | (with_reducible refine' e2_str ?_) | (with_reducible refine' e2_bl ?_) | (with_reducible refine' br_not ?_) | (with_reducible refine' br_true ?_) | (with_reducible refine' br_false ?_)
  | ((with_reducible refine' sc ?hh ?_); (case hh => walk_at "side")) | ((with_reducible refine' l1_adr ?hm ?_); (case hm => walk_at "mm")) | ((with_reducible refine' ll1_adr ?hm ?_); (case hm => walk_at "mm")) | ((with_reducible refine' m1 ?hm ?_); (case hm => walk_at "mm")) | ((with_reducible refine' g1 ?hm ?_); (case hm => walk_at "mm"))
  | ((with_reducible refine' br_pos ?hh ?_); (case hh => omega)) | ((with_reducible refine' br_neg ?hh ?_); (case hh => omega)))
local macro_rules | `(tactic| walk_at "dy") => `(tactic| first
  | (with_reducible refine' w_raise ?_) | (with_reducible refine' w_isI ?_) | (with_reducible refine' w_gtD ?_) | (with_reducible refine' w_ltD ?_) | (with_reducible refine' w_leD ?_) | (with_reducible refine' w_geD ?_) | (with_reducible refine' w_mulS ?_) | (with_reducible refine' w_addS ?_) | (with_reducible refine' w_catT ?_) | (with_reducible refine' w_max2 ?_) | (with_reducible refine' w_min2 ?_) | (with_reducible refine' w_intX ?_) | (with_reducible refine' w_slM ?_) | (with_reducible refine' w_iR3 ?_) | (with_reducible refine' bn_non ?_) | (with_reducible refine' bn_int ?_) | (with_reducible refine' bn_str ?_) | (with_reducible refine' bn_bl ?_) | (with_reducible refine' bn_lst ?_) | (with_reducible refine' bn_frz ?_) | (with_reducible refine' bn_tup ?_) | (with_reducible refine' bn_adr ?_) | (with_reducible refine' ib_int ?_) | (with_reducible refine' ib_bl ?_) | (with_reducible refine' i3 ?_) | (with_reducible refine' DL.s2 ?_)
  | ((with_reducible refine' is_yes ?hh ?_); (case hh => (dsimp only [tyN]; decide +kernel))) | ((with_reducible refine' is_no ?hh ?_); (case hh => (dsimp only [tyN]; decide +kernel))))
local macro_rules | `(tactic| walk_at "dz") => `(tactic| first
  | (with_reducible refine' es_nextE ?_) | (with_reducible refine' w_tru ?_) | (with_reducible refine' tr_lst ?_) | (with_reducible refine' tr_frz ?_) | (with_reducible refine' tr_tup ?_) | (with_reducible refine' tr_bl ?_) | (with_reducible refine' tr_non ?_) | (with_reducible refine' tr_int ?_) | (with_reducible refine' w_inS ?_) | (with_reducible refine' w_ninS ?_) | (with_reducible refine' w_iS ?_) | (with_reducible refine' w_ordc ?_) | (with_reducible refine' w_abs ?_) | (with_reducible refine' w_lenS ?_) | (with_reducible refine' w_ixS ?_) | (with_reducible refine' w_join ?_) | (with_reducible refine' w_tupOf ?_) | (with_reducible refine' w_listRev ?_) | (with_reducible refine' w_unl ?_) | (with_reducible refine' w_chain ?_)
  | ((with_reducible refine' tr_adr ?hm ?_); (case hm => walk_at "mm")))
local macro_rules | `(tactic| walk_at "dm") => `(tactic| repeat (first | walk_at "dw" | walk_at "dx" | walk_at "dt" | walk_at "d0" | walk_at "dy" | walk_at "dz"))
local macro_rules | `(tactic| walk_at "dl") => `(tactic| repeat (first | walk_at "dw" | walk_at "dx" | walk_at "dt" | walk_at "d0" | walk_at "dy" | walk_at "dz" | (with_reducible refine' es_seq ?_)))
local macro_rules | `(tactic| walk_at "go") => `(tactic| ((try dsimp only [L2.cxOf, L2.Cx.nox, L2.Cx.wish]); walk_at "dl"))

namespace K01
/-! ### the law's cases -/
theorem Case.kinds {kind size : Nat} {d : D} {head body : List Int} (h : Case kind size d head body) :
    (∃ x : It, x.ok ∧ d = x.d ∧ head ++ body = x.enc ∧ kind ≤ 2) ∨ (∃ xs : List It, (∀ x ∈ xs, x.ok) ∧ xs.length = size ∧ xs.length ≤ 65535 ∧ (encs xs).length ≤ 200000 ∧ d = .tup (xs.map It.d) ∧ head ++ body = many size ++ encs xs ∧ kind = 3) := by
  cases h with
  | num neg os h => exact .inl ⟨_, h, rfl, by cases neg <;> rfl, by cases neg <;> decide⟩
  | txt cs h => exact .inl ⟨_, h, rfl, by simp [It.enc, lowI_2]; have := h.1; omega, by decide⟩
  | tup xs h h2 h3 h4 => exact .inr ⟨xs, h, rfl, h2, by omega, rfl, by simp [many, lowI_2]; omega, rfl⟩
theorem unP_short {x : It} (h : x.ok) : unP x.enc.dropLast = none ∧ ∀ r, x.enc.dropLast ≠ 4 :: r := by
  cases x with
  | non => exact ⟨rfl, fun r z => by cases z⟩
  | num neg os =>
    have hk : (if neg = true then (2 : Int) else 1) ≠ 0 := by split <;> decide
    have hk2 : (if neg = true then (2 : Int) else 1) = 1 ∨ (if neg = true then (2 : Int) else 1) = 2 := by cases neg <;> simp
    have hk4 : (if neg = true then (2 : Int) else 1) ≠ 4 := by cases neg <;> simp
    cases os with
    | nil =>
      refine ⟨?_, fun r z => ?_⟩
      · simp only [It.enc, List.append_nil, List.dropLast, unP]
        rw [if_neg hk, if_pos hk2]
      · simp only [It.enc, List.append_nil, List.dropLast] at z
        exact hk4 (List.cons.inj z).1
    | cons o os =>
      have e : (It.num neg (o :: os)).enc.dropLast = (if neg = true then (2 : Int) else 1) :: ((o :: os).length : Int) :: (o :: os).dropLast := rfl
      refine ⟨?_, fun r z => ?_⟩
      · rw [e]
        simp only [unP]
        rw [if_neg hk, if_pos hk2, if_neg (by simp)]
      · rw [e] at z
        exact hk4 (List.cons.inj z).1
  | txt cs =>
    obtain ⟨h1, h2⟩ := h
    have e : (It.txt cs).enc = 3 :: ((cs.length : Int) % 256) :: ((cs.length : Int) / 256 % 256) :: cs.map (fun (c : Nat) => (c : Int)) := by simp [It.enc, lowI_2]
    rw [e]
    cases cs with
    | nil => exact ⟨by simp [unP], fun r z => by simp at z⟩
    | cons c cs =>
      refine ⟨?_, fun r z => by simp at z⟩
      have hn : numOf [((c :: cs).length : Int) % 256, ((c :: cs).length : Int) / 256 % 256] = ((c :: cs).length : Int) := by rw [← lowI_2]; exact num_low2 (by omega)
      have e2 : (3 :: ((c :: cs).length : Int) % 256 :: ((c :: cs).length : Int) / 256 % 256 :: (c :: cs).map (fun (c : Nat) => (c : Int))).dropLast = 3 :: ((c :: cs).length : Int) % 256 :: ((c :: cs).length : Int) / 256 % 256 :: ((c :: cs).map (fun (c : Nat) => (c : Int))).dropLast := rfl
      rw [e2]
      simp only [unP, List.take, List.drop, List.take_succ_cons, List.take_zero, hn]
      rw [if_neg (by decide), if_neg (by decide), if_pos True.intro, if_neg (by simp), if_neg (by simp)]
theorem Oct.dropLast {os : List Int} (h : Oct os) : Oct os.dropLast := fun o ho => h o (List.dropLast_subset _ ho)
theorem Oct.app {a b : List Int} (h : Oct a) (h2 : Oct b) : Oct (a ++ b) := fun o ho => (List.mem_append.mp ho).elim (h o) (h2 o)
theorem many_oct {n : Int} : Oct (many n) := fun o ho => by
  rcases List.mem_cons.mp ho with rfl | ho
  · decide
  · exact lowI_oct _ _ o ho
theorem encs_oct {xs : List It} (h : ∀ x ∈ xs, x.ok) : Oct (encs xs) := fun o ho => by
  obtain ⟨x, hx, hox⟩ := List.mem_flatMap.mp ho
  exact It.enc_oct (h x hx) o hox
theorem head_ne {x : It} (rest : List Int) : ∀ r, x.enc ++ rest ≠ 4 :: r := fun r z => by
  obtain ⟨k, q, e, hk⟩ := It.enc_head x
  rw [e] at z
  exact hk (List.cons.inj z).1
theorem bad_short {kind size : Nat} {d : D} {head body : List Int} (h : Case kind size d head body) : Bad (head ++ body).dropLast := by
  rcases h.kinds with ⟨x, hx, _, e, _⟩ | ⟨xs, hx, hl, hl2, he, _, e, _⟩
  · rw [e]
    have hl := It.enc_le hx
    obtain ⟨h1, h2⟩ := unP_short hx
    exact ⟨(It.enc_oct hx).dropLast, by rw [List.length_dropLast]; omega, .inl ⟨h2, fun d z => by rw [h1] at z; cases z⟩⟩
  · rw [e]
    refine ⟨(many_oct.app (encs_oct hx)).dropLast, by rw [List.length_dropLast, List.length_append]; simp [many, lowI_len]; omega, ?_⟩
    by_cases h0 : xs = []
    · subst h0
      obtain rfl : size = 0 := by rw [← hl]; rfl
      exact .inr (.inl ⟨[0], rfl, by decide⟩)
    · obtain ⟨ys, y, rfl⟩ : ∃ ys y, xs = ys ++ [y] := ⟨xs.dropLast, xs.getLast h0, (List.dropLast_concat_getLast h0).symm⟩
      have hy := hx y (by simp)
      obtain ⟨h1, h2⟩ := unP_short hy
      have hyp := It.enc_pos y
      refine .inr (.inr ⟨ys, size, y.enc.dropLast, ?_, fun x hxx => hx x (by simp [hxx]), by simp at hl; omega, by omega, .inr ⟨by simp at hl; omega, h2, h1⟩⟩)
      rw [encs_append, show encs [y] = y.enc by simp [encs], ← List.append_assoc, List.dropLast_append_of_ne_nil (by intro z; rw [z] at hyp; simp at hyp), List.append_assoc]
theorem bad_long {kind size : Nat} {d : D} {head body : List Int} (h : Case kind size d head body) : Bad (head ++ body ++ [0]) := by
  have h0 : Oct [0] := fun o ho => by rw [List.mem_singleton] at ho; rw [ho]; decide
  rcases h.kinds with ⟨x, hx, _, e, _⟩ | ⟨xs, hx, hl, hl2, he, _, e, _⟩
  · rw [e]
    have hl := It.enc_le hx
    refine ⟨(It.enc_oct hx).app h0, by rw [List.length_append]; simp; omega, .inl ⟨head_ne _, fun d z => ?_⟩⟩
    rw [unP_enc hx] at z
    have := congrArg Prod.snd (Option.some.inj z)
    simp at this
  · rw [e]
    refine ⟨(many_oct.app (encs_oct hx)).app h0, by simp [many, lowI_len]; omega, .inr (.inr ⟨xs, size, [0], by rw [List.append_assoc], hx, by omega, by omega, .inl ⟨hl.symm, by simp⟩⟩)⟩
theorem bad_more {kind size : Nat} {d : D} {head body : List Int} (h : Case kind size d head body) (hk : kind < 2) (hs : size < 255) : ∃ h0, head = [h0, (size : Int)] ∧ Bad ([h0, (size : Int) + 1] ++ body) := by
  cases h with
  | num neg os h =>
    refine ⟨_, rfl, ?_⟩
    have hk : (1 + ((if neg = true then 1 else 0 : Nat) : Int)) ≠ 0 := by cases neg <;> decide
    have hk2 : (1 + ((if neg = true then 1 else 0 : Nat) : Int)) = 1 ∨ (1 + ((if neg = true then 1 else 0 : Nat) : Int)) = 2 := by cases neg <;> simp
    refine ⟨fun o ho => ?_, by simp; omega, .inl ⟨fun r z => ?_, fun d z => ?_⟩⟩
    · simp only [List.cons_append, List.nil_append, List.mem_cons] at ho
      rcases ho with rfl | rfl | ho
      · rcases hk2 with e | e <;> rw [e] <;> decide
      · omega
      · exact h.1.1 o ho
    · have := (List.cons.inj z).1
      rcases hk2 with e | e <;> rw [e] at this <;> cases this
    · simp only [List.cons_append, List.nil_append, unP] at z
      rw [if_neg hk, if_pos hk2, if_neg (by omega)] at z
      cases z
  | txt cs h => omega
  | tup xs h h2 h3 h4 => omega
theorem bad_more2 {kind size : Nat} {d : D} {head body : List Int} (h : Case kind size d head body) (hk : 1 < kind) (hs : size < 65535) : ∃ h0 r, head = h0 :: r ∧ Bad ([h0, ((size : Int) + 1) % 256, ((size : Int) + 1) / 256] ++ body) := by
  have he : ((size : Int) + 1) / 256 = ((size : Int) + 1) / 256 % 256 := by omega
  have hlo : lowI (((size + 1 : Nat)) : Int) 2 = [((size : Int) + 1) % 256, ((size : Int) + 1) / 256] := by rw [lowI_2, he]; simp
  have hn := num_low2 (n := ((size + 1 : Nat) : Int)) (by omega)
  have ho := lowI_oct ((size + 1 : Nat) : Int) 2
  rw [hlo] at hn ho
  cases h with
  | num neg os h => cases neg <;> simp at hk
  | txt cs h =>
    refine ⟨_, _, rfl, ?_⟩
    obtain ⟨h1, h2⟩ := h
    refine ⟨fun o hoo => ?_, by simp; omega, .inl ⟨fun r z => by simp at z, fun d z => ?_⟩⟩
    · rw [show ([3, ((cs.length : Int) + 1) % 256, ((cs.length : Int) + 1) / 256] : List Int) = [3] ++ [((cs.length : Int) + 1) % 256, ((cs.length : Int) + 1) / 256] from rfl, List.append_assoc] at hoo
      rcases List.mem_append.mp hoo with h | h
      · rw [List.mem_singleton] at h; rw [h]; decide
      rcases List.mem_append.mp h with h | h
      · exact ho o h
      · obtain ⟨c, hc, rfl⟩ := List.mem_map.mp h
        have := okSign_lt (h2 c hc)
        omega
    · simp only [List.cons_append, List.nil_append, unP, List.take_succ_cons, List.take_zero, List.drop_succ_cons, List.drop_zero, hn] at z
      rw [if_neg (by decide), if_neg (by decide), if_pos True.intro, if_neg (by simp), if_neg (by simp)] at z
      try cases z
  | tup xs h h2 h3 h4 =>
    refine ⟨_, _, rfl, ?_⟩
    have e : ([4, ((xs.length : Int) + 1) % 256, ((xs.length : Int) + 1) / 256] ++ encs xs : List Int) = many ((xs.length + 1 : Nat) : Int) ++ (encs xs ++ []) := by
      unfold many
      rw [hlo, List.append_nil]
    rw [e, List.append_nil]
    exact ⟨many_oct.app (encs_oct h), by simp [many, lowI_len]; omega, .inr (.inr ⟨xs, xs.length + 1, [], by rw [List.append_nil], h, by omega, by omega, .inr ⟨by omega, fun r z => (by cases z), rfl⟩⟩)⟩
theorem Case.cmp {kind size : Nat} {d : D} {head body : List Int} (h : Case kind size d head body) : cmpD 64 d := by
  have g : ∀ (x : It) (n : Nat), x.ok → cmpD n x.d := fun x n hx => by
    cases x with
    | non => cases n <;> exact True.intro
    | num neg os => cases n <;> exact True.intro
    | txt cs =>
      have : PySem.PyData.strOk ⟨cs.toArray⟩ = true := by
        unfold PySem.PyData.strOk
        simp only [List.all_toArray, List.all_eq_true, decide_eq_true_eq]
        intro c hc
        have := okSign_lt (hx.2 c hc)
        omega
      cases n <;> exact this
  rcases h.kinds with ⟨x, hx, e, _⟩ | ⟨xs, hx, _, _, _, e, _⟩
  · rw [e]; exact g x _ hx
  · rw [e]
    intro y hy
    obtain ⟨x, hxx, rfl⟩ := List.mem_map.mp hy
    exact g x _ (hx x hxx)
theorem Case.ty {kind size : Nat} {d : D} {head body : List Int} (h : Case kind size d head body) : ((tyN d == "?") = false ∧ kitB (tyN d) "bool" = some false) ∧ ((tyN d == "?") = false ∧ kitB (tyN d) "int" = some (decide (kind < 2))) := by
  cases h with
  | num neg os h =>
    have : decide ((if neg = true then 1 else 0) < 2) = true := by cases neg <;> rfl
    rw [this]
    dsimp only [It.d, tyN]
    decide +kernel
  | txt cs h => dsimp only [It.d, tyN]; decide +kernel
  | tup xs h h2 h3 h4 => dsimp only [tyN]; decide +kernel
end K01

end

section
open PySem L2 Evl DL
local macro_rules | `(tactic| walk_at "blk") => `(tactic| first | exact rfl | (dsimp only [L2.Cx.blk, L2.Cx.tr, L2.Cx.suite, L2.Cx.nox, L2.cxOf, L2.Cx.wish]; done) | (dsimp only [L2.Cx.blk, L2.Cx.tr, L2.Cx.suite, L2.Cx.nox, L2.cxOf, L2.Cx.wish]; exact rfl))
local macro_rules | `(tactic| walk_at "nrm") => `(tactic| dsimp only [startD, List.map_cons, List.map_nil, List.length_cons, List.length_nil, List.replicate, List.set_cons_zero, List.set_cons_succ, List.cons_append, List.nil_append, Nat.reduceAdd, Nat.reduceSub, wipeD])
local macro_rules | `(tactic| walk_at "mm") => `(tactic| first | assumption | exact updM_same | (refine updM_get ?_ ?_ <;> first | assumption | (apply Ne.symm; assumption) | walk_at "mm"))
local macro_rules | `(tactic| walk_at "side") => `(tactic| first | omega | (simp only [List.length_cons, List.length_nil]; done) | (simp only [List.length_cons, List.length_nil, List.length_append, List.length_map, sizeLine_eq]; omega) | exact Or.inr ⟨by omega, by omega⟩ | exact Or.inl ⟨by omega, by omega⟩ | exact And.intro (by omega) (by omega) | exact And.intro (by omega) (And.intro (by omega) (by decide)))
local macro_rules | `(tactic| walk_at "d0") => `(tactic| first
  | ((with_reducible first | show Pd.nx _ _ | show Pd.bk _ _ | show Pd.ct _ _ | show Pd.rt _ _ _); walk_at "nrm")
  | (with_reducible refine' es_set ?_) | (with_reducible refine' es_drop ?_) | (with_reducible refine' es_ret ?_) | (with_reducible refine' w_if ?_) | (with_reducible refine' es_next ?_) | (with_reducible refine' es_break ?_) | (with_reducible refine' es_cont ?_) | (with_reducible refine' es_retN ?_) | (with_reducible refine' es_asg ?_) | (with_reducible refine' es_for ?_) | ((with_reducible refine' w_aug ?hh ?_); (case hh => exact rfl)))
local macro_rules | `(tactic| walk_at "dx") => `(tactic| first
  | ((with_reducible refine' ed_var ?hh ?_); (case hh => exact rfl)) | ((with_reducible refine' w_varF ?hh ?hm ?_); (case hh => exact rfl); (case hm => walk_at "mm"))
  | (with_reducible refine' w_int ?_) | (with_reducible refine' w_str ?_) | (with_reducible refine' w_bl ?_) | (with_reducible refine' w_non ?_) | (with_reducible refine' w_add ?_) | (with_reducible refine' w_sub ?_) | (with_reducible refine' w_mul ?_) | (with_reducible refine' w_mulW ?_) | (with_reducible refine' w_mod ?_) | (with_reducible refine' w_fdiv ?_) | (with_reducible refine' w_fdivW ?_) | (with_reducible refine' w_pow ?_) | (with_reducible refine' w_neg ?_) | (with_reducible refine' w_lt ?_) | (with_reducible refine' w_le ?_) | (with_reducible refine' w_gt ?_) | (with_reducible refine' w_ge ?_) | (with_reducible refine' w_eq ?_) | (with_reducible refine' w_ne ?_) | (with_reducible refine' w_isN ?_) | (with_reducible refine' w_notN ?_) | (with_reducible refine' w_andV ?_) | (with_reducible refine' w_orV ?_) | (with_reducible refine' w_notV ?_) | (with_reducible refine' w_ife ?_) | (with_reducible refine' w_lst ?_) | (with_reducible refine' w_lstM ?_) | (with_reducible refine' w_tup ?_) | (with_reducible refine' w_ixL ?_) | (with_reducible refine' w_ixT ?_) | (with_reducible refine' w_slL ?_) | (with_reducible refine' w_cat ?_) | (with_reducible refine' w_len ?_) | (with_reducible refine' w_list ?_) | (with_reducible refine' w_app ?_) | (with_reducible refine' w_ext ?_) | (with_reducible refine' w_pop ?_) | (with_reducible refine' w_call ?_) | (with_reducible refine' w_eqD ?_) | (with_reducible refine' w_neD ?_))
local macro_rules | `(tactic| walk_at "dt") => `(tactic| first
  | (with_reducible refine' w_test ?_) | (with_reducible refine' w_B ?_) | (with_reducible refine' w_and ?_) | (with_reducible refine' w_or ?_) | (with_reducible refine' w_not ?_) | (with_reducible refine' et_yes ?_) | (with_reducible refine' ea_nil ?_) | (with_reducible refine' ea_cons ?_) | (with_reducible refine' eo_none ?_) | (with_reducible refine' w_part ?_) | (with_reducible refine' eg_name ?_) | (with_reducible refine' w_setM ?_) | (with_reducible refine' w_tupT ?_) | (with_reducible refine' egs_nil ?_) | (with_reducible refine' egs_cons ?_) | (with_reducible refine' w_iL ?_) | (with_reducible refine' w_iT ?_) | (with_reducible refine' w_iR1 ?_) | (with_reducible refine' w_iR2 ?_) | (with_reducible refine' w_iRev ?_))
local macro_rules | `(tactic| walk_at "dw") => `(tactic| first
  | (with_reducible refine' i1 ?_) | (with_reducible refine' i2 ?_) | (with_reducible refine' s1 ?_) | (with_reducible refine' s2 ?_) | (with_reducible refine' b1 ?_) | (with_reducible refine' l1_lst ?_) | (with_reducible refine' l1_frz ?_) | (with_reducible refine' l1_tup ?_) | (with_reducible refine' ll1_lst ?_) | (with_reducible refine' ll1_frz ?_) | (with_reducible refine' f1_lst ?_) | (with_reducible refine' f1_frz ?_) | (with_reducible refine' t1 ?_) | (with_reducible refine' n1 ?_) | (with_reducible refine' e2_int ?_) | (with_reducible refine' e2_str ?_) | (with_reducible refine' e2_bl ?_) | (with_reducible refine' br_not ?_) | (with_reducible refine' br_true ?_) | (with_reducible refine' br_false ?_)
  | ((with_reducible refine' sc ?hh ?_); (case hh => walk_at "side")) | ((with_reducible refine' l1_adr ?hm ?_); (case hm => walk_at "mm")) | ((with_reducible refine' ll1_adr ?hm ?_); (case hm => walk_at "mm")) | ((with_reducible refine' m1 ?hm ?_); (case hm => walk_at "mm")) | ((with_reducible refine' g1 ?hm ?_); (case hm => walk_at "mm"))
  | ((with_reducible refine' br_pos ?hh ?_); (case hh => omega)) | ((with_reducible refine' br_neg ?hh ?_); (case hh => omega)))
local macro_rules | `(tactic| walk_at "dy") => `(tactic| first
  | (with_reducible refine' w_raise ?_) | (with_reducible refine' w_isI ?_) | (with_reducible refine' w_gtD ?_) | (with_reducible refine' w_ltD ?_) | (with_reducible refine' w_leD ?_) | (with_reducible refine' w_geD ?_) | (with_reducible refine' w_mulS ?_) | (with_reducible refine' w_addS ?_) | (with_reducible refine' w_catT ?_) | (with_reducible refine' w_max2 ?_) | (with_reducible refine' w_min2 ?_) | (with_reducible refine' w_intX ?_) | (with_reducible refine' w_slM ?_) | (with_reducible refine' w_iR3 ?_) | (with_reducible refine' bn_non ?_) | (with_reducible refine' bn_int ?_) | (with_reducible refine' bn_str ?_) | (with_reducible refine' bn_bl ?_) | (with_reducible refine' bn_lst ?_) | (with_reducible refine' bn_frz ?_) | (with_reducible refine' bn_tup ?_) | (with_reducible refine' bn_adr ?_) | (with_reducible refine' ib_int ?_) | (with_reducible refine' ib_bl ?_) | (with_reducible refine' i3 ?_) | (with_reducible refine' DL.s2 ?_)
  | ((with_reducible refine' is_yes ?hh ?_); (case hh => (dsimp only [tyN]; decide +kernel))) | ((with_reducible refine' is_no ?hh ?_); (case hh => (dsimp only [tyN]; decide +kernel))))
local macro_rules | `(tactic| walk_at "dz") => `(tactic| first
  | (with_reducible refine' es_nextE ?_) | (with_reducible refine' w_tru ?_) | (with_reducible refine' tr_lst ?_) | (with_reducible refine' tr_frz ?_) | (with_reducible refine' tr_tup ?_) | (with_reducible refine' tr_bl ?_) | (with_reducible refine' tr_non ?_) | (with_reducible refine' tr_int ?_) | (with_reducible refine' w_inS ?_) | (with_reducible refine' w_ninS ?_) | (with_reducible refine' w_iS ?_) | (with_reducible refine' w_ordc ?_) | (with_reducible refine' w_abs ?_) | (with_reducible refine' w_lenS ?_) | (with_reducible refine' w_ixS ?_) | (with_reducible refine' w_join ?_) | (with_reducible refine' w_tupOf ?_) | (with_reducible refine' w_listRev ?_) | (with_reducible refine' w_unl ?_) | (with_reducible refine' w_chain ?_)
  | ((with_reducible refine' tr_adr ?hm ?_); (case hm => walk_at "mm")))
local macro_rules | `(tactic| walk_at "dm") => `(tactic| repeat (first | walk_at "dw" | walk_at "dx" | walk_at "dt" | walk_at "d0" | walk_at "dy" | walk_at "dz"))
local macro_rules | `(tactic| walk_at "dl") => `(tactic| repeat (first | walk_at "dw" | walk_at "dx" | walk_at "dt" | walk_at "d0" | walk_at "dy" | walk_at "dz" | (with_reducible refine' es_seq ?_)))
local macro_rules | `(tactic| walk_at "go") => `(tactic| ((try dsimp only [L2.cxOf, L2.Cx.nox, L2.Cx.wish]); walk_at "dl"))

namespace K01
section
variable {P : Program} {w : World} {K : PySem.W.Frag} {mg : Str → Option Value} {base : Heap} {Co Cf : Addr}
theorem weak_any {ρ ρ' : List (Option D)} {M : MM} (h : WkS ρ ρ') : ∃ s3, Weak ⟨ρ, M⟩ s3 ∧ ∃ M', s3 = ⟨ρ', M'⟩ := ⟨⟨ρ', M⟩, ⟨h, Inc.refl _⟩, M, rfl⟩
theorem case_pack {kind size : Nat} {d : D} {head body : List Int} (h : Case kind size d head body) {M : MM} {R : D → MM → Prop} (hR : ∀ M', Inc M M' → R (dI (head ++ body)) M') : T_pack [d] M R := by
  rcases h.kinds with ⟨x, hx, e, e2, _⟩ | ⟨xs, hx, hl, hl2, hl3, e, e2, _⟩
  · exact .inl ⟨x, by rw [e], hx, by rw [← e2]; exact hR⟩
  · exact .inr ⟨xs, by rw [e], hx, hl2, by omega, by rw [hl, ← e2]; exact hR⟩
theorem case_unpack {kind size : Nat} {d : D} {head body : List Int} (h : Case kind size d head body) {M : MM} {R : D → MM → Prop} {RX : XC → MM → Prop} (hR : ∀ M', Inc M M' → R d M') : T_unpack Co [dI (head ++ body)] M R RX := by
  rcases h.kinds with ⟨x, hx, e, e2, _⟩ | ⟨xs, hx, hl, hl2, hl3, e, e2, _⟩
  · have hu := unP_enc hx []
    rw [List.append_nil] at hu
    rw [e2]
    have := It.enc_le hx
    refine ⟨_, rfl, It.enc_oct hx, by omega, .inl ⟨fun r z => head_ne (x := x) [] r (by rw [List.append_nil]; exact z), fun d' e' => ?_, fun z => absurd hu (z _)⟩⟩
    rw [hu] at e'
    cases e'
    rw [← e]
    exact hR
  · rw [e2]
    refine ⟨_, rfl, many_oct.app (encs_oct hx), by simp [many, lowI_len]; omega, .inr (.inr ⟨xs, size, [], by rw [List.append_nil], hx, by omega, by omega, fun _ _ => by rw [← e]; exact hR, fun _ z => absurd rfl z, fun z => by omega⟩)⟩
theorem case_len {kind size : Nat} {d : D} {head body : List Int} (h : Case kind size d head body) : (head ++ body).length ≤ 300000 := by
  rcases h.kinds with ⟨x, hx, e, e2, _⟩ | ⟨xs, hx, hl, hl2, hl3, e, e2, _⟩
  · rw [e2]; have := It.enc_le hx; omega
  · rw [e2]; simp [many, lowI_len]; omega
theorem cutD_m1 (xs : List D) : cutD xs none (some (-1)) = xs.dropLast := by
  unfold cutD
  rw [HT.sIx_none, List.drop_zero, Nat.sub_zero, List.dropLast_eq_take]
  show xs.take (if (-1 : Int) < 0 then (-1 + (xs.length : Int)).toNat else min (-1 : Int).toNat xs.length) = _
  rw [if_pos (by decide)]
  congr 1
  omega
abbrev s_law : Stmt := top 32
theorem sc_law : FnScope ["script", "turn", "box", "kind", "size", "data", "head", "body", "octets", "told"] ["script"] (defScope s_law) := ⟨rfl, rfl, rfl, by decide +kernel, rfl, by decide +kernel, by decide +kernel⟩
def T_law : DSp := fun ds M R => ∃ ns : List Int, ds = [.frz (ns.map .int)] ∧ ∀ M', R (.bl true) M'
theorem ok_law {fa : Addr} {fd : FuncData} (T : Tx K mg Co Cf) (F : Fun K "law" "law" s_law fa fd) (G_pack : Df P w K mg base 3 "pack" 1 T_pack) (G_unpack : DfX P w K mg base 4 "unpack" 1 (T_unpack Co))
    (G_law_number : Df P w K mg base 1 "_law_number" 2 T_law_number) (G_law_take : Df P w K mg base 1 "_law_take" 2 T_law_take) (G_law_case_of : Df P w K mg base 2 "_law_case_of" 4 T_law_case_of) (G_law_refuses : Df P w K mg base 5 "_law_refuses" 1 T_law_refuses) :
    FnOk P w K mg base CX0 6 fa fd ["script"] (spOf K T_law) := by
  refine okD F sc_law (fun ds M R ⟨n, e, _⟩ => by rw [e]; rfl) fun cdv A outer s H E hr => ⟨_, (pss_cons (ps_for PassesOwn.never rfl (pi_range1 (by rfl) T.range (pa_cons pe_int pa_nil)) (pg_name (i := 1) sc_law.nd rfl (by first | exact Or.inl rfl | exact Or.inr rfl))
      (pss_cons (ps_set (i := 2) sc_law.nd rfl (by first | exact Or.inl rfl | exact Or.inr rfl) (pe_lstM (pa_cons (pe_callD G_law_number (hr.mono (by decide)) (by rfl) (pa_cons (pv 0) (pa_cons (pv 1) pa_nil))) pa_nil)))
      (pss_cons (ps_set (i := 3) sc_law.nd rfl (by first | exact Or.inl rfl | exact Or.inr rfl) (pe_op op_mod (pe_callTy call_int1 (by rfl) T.int (by decide +kernel) (pa_cons (pe_op op_add (pv 1) (pe_callD G_law_take (hr.mono (by decide)) (by rfl) (pa_cons (pv 2) (pa_cons pe_int pa_nil)))) pa_nil)) pe_int))
      (pss_cons (ps_set (i := 4) sc_law.nd rfl (by first | exact Or.inl rfl | exact Or.inr rfl) (pe_ix ix_list (pe_lst (pa_cons pe_int (pa_cons pe_int (pa_cons pe_int (pa_cons pe_int (pa_cons pe_int (pa_cons pe_int (pa_cons pe_int (pa_cons pe_int (pa_cons pe_int (pa_cons pe_int (pa_cons pe_int pa_nil)))))))))))) (pe_callD G_law_take (hr.mono (by decide)) (by rfl) (pa_cons (pv 2) (pa_cons pe_int pa_nil))) (fun _ _ => rfl)))
      (pss_cons (ps_if (pt_cmpR op_lt (pv 3) pe_int (nomark _))
      (pss_one (ps_set (i := 4) sc_law.nd rfl (by first | exact Or.inl rfl | exact Or.inr rfl) (pe_callB (call_max2 rfl) (by rfl) T.max (by decide +kernel) (pa_cons (pv 3) (pa_cons (pe_callB (call_min2 rfl) (by rfl) T.min (by decide +kernel) (pa_cons (pv 4) (pa_cons pe_int pa_nil))) pa_nil)))))
      pss_nil)
      (pss_cons (ps_asg (pe_callD G_law_case_of (hr.mono (by decide)) (by rfl) (pa_cons (pv 3) (pa_cons (pv 4) (pa_cons (pe_callD G_law_take (hr.mono (by decide)) (by rfl) (pa_cons (pv 2) (pa_cons pe_int pa_nil))) (pa_cons (pe_op op_add pe_int (pe_callD G_law_take (hr.mono (by decide)) (by rfl) (pa_cons (pv 2) (pa_cons pe_int pa_nil)))) pa_nil))))) (pg_unl (n := 3) rfl (pgs_cons (pg_name (i := 5) sc_law.nd rfl (by first | exact Or.inl rfl | exact Or.inr rfl)) (pgs_cons (pg_name (i := 6) sc_law.nd rfl (by first | exact Or.inl rfl | exact Or.inr rfl)) (pgs_cons (pg_name (i := 7) sc_law.nd rfl (by first | exact Or.inl rfl | exact Or.inr rfl)) pgs_nil)))))
      (pss_cons (ps_set (i := 8) sc_law.nd rfl (by first | exact Or.inl rfl | exact Or.inr rfl) (pe_callD G_pack (hr.mono (by decide)) (by rfl) (pa_cons (pv 5) pa_nil)))
      (pss_cons (ps_if (PW.pt (pw_or (pt_not (pt_val (pe_callB call_isi (by rfl) T.isinstance (by decide +kernel) (pa_cons (pv 8) (pa_cons (pe_bltn (v := .ty "list") (by rfl) T.list (by decide +kernel) rfl) pa_nil))))) (pw_or1 (pt_cmpR (op_neD hr.units) (pv 8) (pe_op op_cat (pv 6) (pv 7)) (nomark _)))))
      (pss_one (ps_ret pe_bl))
      pss_nil)
      (pss_cons (ps_set (i := 9) sc_law.nd rfl (by first | exact Or.inl rfl | exact Or.inr rfl) (pe_callX G_unpack (hr.mono (by decide)) takes0 (by rfl) (pa_cons (pe_callTy call_list_of (by rfl) T.list (by decide +kernel) (pa_cons (pv 8) pa_nil)) pa_nil)))
      (pss_cons (ps_if (PW.pt (pw_or (pt_cmpR (op_neD hr.units) (pv 9) (pv 5) (nomark _)) (pw_or (pt_val (pe_callB call_isi (by rfl) T.isinstance (by decide +kernel) (pa_cons (pv 9) (pa_cons (pe_bltn (v := .ty "bool") (by rfl) T.bool (by decide +kernel) rfl) pa_nil)))) (pw_or1 (pt_cmpR op_ne (pe_callB call_isi (by rfl) T.isinstance (by decide +kernel) (pa_cons (pv 9) (pa_cons (pe_bltn (v := .ty "int") (by rfl) T.int (by decide +kernel) rfl) pa_nil))) (pe_cmpR op_lt (pv 3) pe_int (nomark _)) (nomark _))))))
      (pss_one (ps_ret pe_bl))
      pss_nil)
      (pss_cons (ps_if (PW.pt (pw_or (pt_not (pt_val (pe_callD G_law_refuses (hr.mono (by decide)) (by rfl) (pa_cons (pe_slice sl_list (pv 8) po_none (po_some (pe_un un_neg pe_int))) pa_nil)))) (pw_or1 (pt_not (pt_val (pe_callD G_law_refuses (hr.mono (by decide)) (by rfl) (pa_cons (pe_op op_cat (pv 8) (pe_lst (pa_cons pe_int pa_nil))) pa_nil)))))))
      (pss_one (ps_ret pe_bl))
      pss_nil)
      (pss_cons (ps_if (PW.pt (pw_and (pt_cmpR op_lt (pv 3) pe_int (nomark _)) (pw_and (pt_cmpR op_lt (pv 4) pe_int (nomark _)) (pw_and1 (pt_not (pt_val (pe_callD G_law_refuses (hr.mono (by decide)) (by rfl) (pa_cons (pe_op op_cat (pe_lst (pa_cons (pe_ix ix_list (pv 6) pe_int (fun _ _ => rfl)) (pa_cons (pe_op op_add (pv 4) pe_int) pa_nil))) (pv 7)) pa_nil))))))))
      (pss_one (ps_ret pe_bl))
      pss_nil)
      (pss_one (ps_if (PW.pt (pw_and (pt_cmpR op_gt (pv 3) pe_int (nomark _)) (pw_and (pt_cmpR op_lt (pv 4) pe_int (nomark _)) (pw_and1 (pt_not (pt_val (pe_callD G_law_refuses (hr.mono (by decide)) (by rfl) (pa_cons (pe_op op_cat (pe_lst (pa_cons (pe_ix ix_list (pv 6) pe_int (fun _ _ => rfl)) (pa_cons (pe_op op_mod (pe_callTy call_int1 (by rfl) T.int (by decide +kernel) (pa_cons (pe_op op_add (pv 4) pe_int) pa_nil)) pe_int) (pa_cons (pe_op op_fdiv (pe_op op_add (pv 4) pe_int) pe_int) pa_nil)))) (pv 7)) pa_nil))))))))
      (pss_one (ps_ret pe_bl))
      pss_nil))))))))))))))
      (pss_one (ps_ret pe_bl)))
   , ?_⟩
  rintro ds M R ⟨ns, rfl, hR⟩
  walk_at "go"
  refine lp_range (n := 6) (fun i s' => ∃ M' : MM, s' = ⟨[some (.frz (ns.map .int)), none, none, none, none, none, none, none, none, none], M'⟩) ⟨_, rfl⟩ ?_ ?_
  · rintro i _ hi ⟨M1, rfl⟩
    refine eg_name (es_weak ?_)
    walk_at "dl"
    refine ⟨_, ns, _, rfl, .inr rfl, by omega, by omega, fun z => ?_⟩
    walk_at "dl"
    intro b hb
    have hb : M1 b = none := hb
    walk_at "dl"
    refine ⟨b, z, 4, rfl, updM_same, by decide, by decide, fun d1 n1 h1 h2 => ?_⟩
    walk_at "dl"
    obtain ⟨kind, hkd, hk3⟩ : ∃ kind : Nat, (0 + (i : Int) + d1) % 4 = (kind : Int) ∧ kind ≤ 3 := ⟨((0 + (i : Int) + d1) % 4).toNat, by omega, by omega⟩
    rw [hkd]
    walk_at "dl"
    refine ⟨b, n1, 11, rfl, updM_same, by decide, by decide, fun d2 n2 h3 h4 => ?_⟩
    walk_at "dl"
    obtain ⟨s0, hs0, hs1⟩ : ∃ s0 : Nat, atI [D.int 0, D.int 1, D.int 2, D.int 254, D.int 255, D.int 256, D.int 257, D.int 4095, D.int 4096, D.int 65534, D.int 65535] d2 = some (.int (s0 : Int)) ∧ s0 ≤ 65535 := by
      have : d2 = 0 ∨ d2 = 1 ∨ d2 = 2 ∨ d2 = 3 ∨ d2 = 4 ∨ d2 = 5 ∨ d2 = 6 ∨ d2 = 7 ∨ d2 = 8 ∨ d2 = 9 ∨ d2 = 10 := by omega
      rcases this with rfl | rfl | rfl | rfl | rfl | rfl | rfl | rfl | rfl | rfl | rfl
      · exact ⟨0, rfl, by omega⟩
      · exact ⟨1, rfl, by omega⟩
      · exact ⟨2, rfl, by omega⟩
      · exact ⟨254, rfl, by omega⟩
      · exact ⟨255, rfl, by omega⟩
      · exact ⟨256, rfl, by omega⟩
      · exact ⟨257, rfl, by omega⟩
      · exact ⟨4095, rfl, by omega⟩
      · exact ⟨4096, rfl, by omega⟩
      · exact ⟨65534, rfl, by omega⟩
      · exact ⟨65535, rfl, by omega⟩
    refine at1 hs0 ?_
    walk_at "dm"
    have hM2 : updM (updM (updM M1 b (.lst [.int z])) b (.lst [.int n1])) b (.lst [.int n2]) b = some (.lst [.int n2]) := updM_same
    generalize updM (updM (updM M1 b (.lst [.int z])) b (.lst [.int n1])) b (.lst [.int n2]) = M2 at hM2 ⊢
    refine es_cut (fun s' => ∃ size : Nat, size ≤ 65535 ∧ (kind < 2 → size ≤ 255 ∧ kind ≤ size) ∧ s' = ⟨[some (.frz (ns.map .int)), some (.int (0 + (i : Int))), some (.adr b), some (.int (kind : Int)), some (.int (size : Int)), none, none, none, none, none], M2⟩) ?_ ?_
    · walk_at "dl"
      refine br_dec (fun h0 => ?_) (fun h0 => ?_)
      · walk_at "dl"
        by_cases g1 : (255 : Int) < (s0 : Int)
        · rw [if_pos g1, if_pos (show (255 : Int) > (kind : Int) by omega)]
          exact ⟨255, by omega, fun _ => ⟨by omega, by omega⟩, rfl⟩
        · rw [if_neg g1]
          by_cases g2 : (s0 : Int) > (kind : Int)
          · rw [if_pos g2]
            exact ⟨s0, hs1, fun _ => ⟨by omega, by omega⟩, rfl⟩
          · rw [if_neg g2]
            exact ⟨kind, by omega, fun _ => ⟨by omega, by omega⟩, rfl⟩
      · walk_at "dl"
        exact ⟨s0, hs1, fun z => by omega, rfl⟩
    rintro _ ⟨size, hz1, hz2, rfl⟩
    walk_at "dl"
    refine ⟨b, n2, 1000, rfl, hM2, by decide, by decide, fun d3 n3 h5 h6 => ?_⟩
    walk_at "dl"
    refine ⟨b, n3, 97, rfl, updM_same, by decide, by decide, fun d4 n4 h7 h8 => ?_⟩
    walk_at "dl"
    refine ⟨kind, size, d3, 1 + d4, rfl, hk3, hz1, hz2, ⟨by omega, by omega⟩, ⟨by omega, by omega⟩, fun d head body M3 hcase _ => ?_⟩
    have hlen := case_len hcase
    walk_at "dl"
    refine case_pack hcase fun M4 _ => ?_
    walk_at "dl"
    have hlen2 : head.length + body.length ≤ 300000 := by rw [← List.length_append]; exact hlen
    rw [← List.map_append]
    have hci : ∀ os : List Int, cmpD 64 (dI os) := fun os => cmpD_ints
    refine sc (by rw [List.length_map, List.length_map, sizeLine_eq]; omega) ?_
    refine sc ⟨hci _, hci _⟩ ?_
    walk_at "dl"
    refine br_eqD rfl (hci _) ?_
    walk_at "dl"
    refine w_callX ?_
    walk_at "dl"
    refine case_unpack hcase fun M5 _ => ?_
    walk_at "dl"
    have hcd := hcase.cmp
    refine sc ⟨hcd, hcd⟩ ?_
    walk_at "dl"
    refine br_eqD rfl hcd ?_
    walk_at "dl"
    obtain ⟨ht1, ht2⟩ := hcase.ty
    refine is_no ht1 ?_
    walk_at "dl"
    refine ⟨decide (kind < 2), ht2, ?_⟩
    walk_at "dl"
    refine br_pos (show decide (kind < 2) = decide ((kind : Int) < 2) from decide_eq_decide.mpr (by omega)) ?_
    walk_at "dl"
    rw [cutD_m1, ← List.map_dropLast]
    refine ⟨_, rfl, bad_short hcase, ?_⟩
    walk_at "dl"
    refine ⟨head ++ body ++ [0], by simp, bad_long hcase, ?_⟩
    walk_at "dm"
    refine es_cut (fun s' => s' = ⟨[some (.frz (ns.map .int)), some (.int (0 + (i : Int))), some (.adr b), some (.int (kind : Int)), some (.int (size : Int)), some d, some (dI head), some (dI body), some (dI (head ++ body)), some d], M5⟩) ?_ ?_
    · walk_at "dl"
      refine br_dec (fun g1 => ?_) (fun g1 => ?_)
      · walk_at "dl"
        refine br_dec (fun g2 => ?_) (fun g2 => ?_)
        · obtain ⟨h0, rfl, hbad⟩ := bad_more hcase (by omega) (by omega)
          walk_at "dl"
          refine at1o 0 rfl rfl ?_
          walk_at "dl"
          refine ⟨[h0, (size : Int) + 1] ++ body, rfl, hbad, ?_⟩
          walk_at "dl"
        · walk_at "dl"
      · walk_at "dl"
    rintro _ rfl
    walk_at "dl"
    refine br_dec (fun g1 => ?_) (fun g1 => ?_)
    · walk_at "dl"
      refine br_dec (fun g2 => ?_) (fun g2 => ?_)
      · obtain ⟨h0, r, rfl, hbad⟩ := bad_more2 hcase (by omega) (by omega)
        walk_at "dl"
        refine at1o 0 rfl rfl ?_
        walk_at "dl"
        refine ⟨[h0, ((size : Int) + 1) % 256, ((size : Int) + 1) / 256] ++ body, rfl, hbad, ?_⟩
        walk_at "dl"
        exact weak_any (by simp [WkS])
      · walk_at "dl"
        exact weak_any (by simp [WkS])
    · walk_at "dl"
      exact weak_any (by simp [WkS])
  · rintro _ ⟨M', rfl⟩
    walk_at "dl"
    exact hR _
end
end K01

end

section
open PySem L2 Evl DL
namespace K01
theorem law_T (ns : List Int) (hl : ns.length ≤ 63) (R : D → MM → Prop) (h : ∀ M', R (.bl true) M') : T_law [.frz (ns.map .int)] (fun _ => none) R := ⟨ns, rfl, h⟩
theorem all_mk {l : PySem.W.OpenLaw} {w : World} {K : PySem.W.Frag} {h : Heap} {mg : Str → Option Value} {fa f0 f1 f2 f3 f4 f5 f6 f7 f8 f9 f10 f11 f12 f13 f14 f15 f16 f17 f18 : Addr} (X : K.In h) (G : h.Ns mainGlobals mg) (hfa : mg "law" = some (.ref fa))
    {od0 an0 : Option Addr} {sl0 : Array (Option Value)} {oc0 kV0 dc0 pm0 cd0 ct0 : Value}
    (a0 : PySem.W.nsIn K mainGlobals "is_integer" = some (some (.ref f0))) (l0 : K.lookup f0 = some ⟨oc0, od0, .func (PySem.W.fnOf "is_integer" "is_integer" (defArgs s_is_integer) (defBody s_is_integer) (defScope s_is_integer) .none kV0 dc0 pm0 an0 cd0 ct0), sl0⟩) (c0 : PySem.W.codeIn K cd0 "is_integer" = true) (k0 : PySem.W.keepIn K (.ref f0) = true)
    {od1 an1 : Option Addr} {sl1 : Array (Option Value)} {oc1 kV1 dc1 pm1 cd1 ct1 : Value}
    (a1 : PySem.W.nsIn K mainGlobals "low_octets" = some (some (.ref f1))) (l1 : K.lookup f1 = some ⟨oc1, od1, .func (PySem.W.fnOf "low_octets" "low_octets" (defArgs s_low_octets) (defBody s_low_octets) (defScope s_low_octets) .none kV1 dc1 pm1 an1 cd1 ct1), sl1⟩) (c1 : PySem.W.codeIn K cd1 "low_octets" = true) (k1 : PySem.W.keepIn K (.ref f1) = true)
    {od2 an2 : Option Addr} {sl2 : Array (Option Value)} {oc2 kV2 dc2 pm2 cd2 ct2 : Value}
    (a2 : PySem.W.nsIn K mainGlobals "number_of" = some (some (.ref f2))) (l2 : K.lookup f2 = some ⟨oc2, od2, .func (PySem.W.fnOf "number_of" "number_of" (defArgs s_number_of) (defBody s_number_of) (defScope s_number_of) .none kV2 dc2 pm2 an2 cd2 ct2), sl2⟩) (c2 : PySem.W.codeIn K cd2 "number_of" = true) (k2 : PySem.W.keepIn K (.ref f2) = true)
    {od3 an3 : Option Addr} {sl3 : Array (Option Value)} {oc3 kV3 dc3 pm3 cd3 ct3 : Value}
    (a3 : PySem.W.nsIn K mainGlobals "size_octets" = some (some (.ref f3))) (l3 : K.lookup f3 = some ⟨oc3, od3, .func (PySem.W.fnOf "size_octets" "size_octets" (defArgs s_size_octets) (defBody s_size_octets) (defScope s_size_octets) .none kV3 dc3 pm3 an3 cd3 ct3), sl3⟩) (c3 : PySem.W.codeIn K cd3 "size_octets" = true) (k3 : PySem.W.keepIn K (.ref f3) = true)
    {od4 an4 : Option Addr} {sl4 : Array (Option Value)} {oc4 kV4 dc4 pm4 cd4 ct4 : Value}
    (a4 : PySem.W.nsIn K mainGlobals "pack_plain" = some (some (.ref f4))) (l4 : K.lookup f4 = some ⟨oc4, od4, .func (PySem.W.fnOf "pack_plain" "pack_plain" (defArgs s_pack_plain) (defBody s_pack_plain) (defScope s_pack_plain) .none kV4 dc4 pm4 an4 cd4 ct4), sl4⟩) (c4 : PySem.W.codeIn K cd4 "pack_plain" = true) (k4 : PySem.W.keepIn K (.ref f4) = true)
    {od5 an5 : Option Addr} {sl5 : Array (Option Value)} {oc5 kV5 dc5 pm5 cd5 ct5 : Value}
    (a5 : PySem.W.nsIn K mainGlobals "pack" = some (some (.ref f5))) (l5 : K.lookup f5 = some ⟨oc5, od5, .func (PySem.W.fnOf "pack" "pack" (defArgs s_pack) (defBody s_pack) (defScope s_pack) .none kV5 dc5 pm5 an5 cd5 ct5), sl5⟩) (c5 : PySem.W.codeIn K cd5 "pack" = true) (k5 : PySem.W.keepIn K (.ref f5) = true)
    {od6 an6 : Option Addr} {sl6 : Array (Option Value)} {oc6 kV6 dc6 pm6 cd6 ct6 : Value}
    (a6 : PySem.W.nsIn K mainGlobals "need" = some (some (.ref f6))) (l6 : K.lookup f6 = some ⟨oc6, od6, .func (PySem.W.fnOf "need" "need" (defArgs s_need) (defBody s_need) (defScope s_need) .none kV6 dc6 pm6 an6 cd6 ct6), sl6⟩) (c6 : PySem.W.codeIn K cd6 "need" = true) (k6 : PySem.W.keepIn K (.ref f6) = true)
    {od7 an7 : Option Addr} {sl7 : Array (Option Value)} {oc7 kV7 dc7 pm7 cd7 ct7 : Value}
    (a7 : PySem.W.nsIn K mainGlobals "unpack_number" = some (some (.ref f7))) (l7 : K.lookup f7 = some ⟨oc7, od7, .func (PySem.W.fnOf "unpack_number" "unpack_number" (defArgs s_unpack_number) (defBody s_unpack_number) (defScope s_unpack_number) .none kV7 dc7 pm7 an7 cd7 ct7), sl7⟩) (c7 : PySem.W.codeIn K cd7 "unpack_number" = true) (k7 : PySem.W.keepIn K (.ref f7) = true)
    {od8 an8 : Option Addr} {sl8 : Array (Option Value)} {oc8 kV8 dc8 pm8 cd8 ct8 : Value}
    (a8 : PySem.W.nsIn K mainGlobals "sign_of" = some (some (.ref f8))) (l8 : K.lookup f8 = some ⟨oc8, od8, .func (PySem.W.fnOf "sign_of" "sign_of" (defArgs s_sign_of) (defBody s_sign_of) (defScope s_sign_of) .none kV8 dc8 pm8 an8 cd8 ct8), sl8⟩) (c8 : PySem.W.codeIn K cd8 "sign_of" = true) (k8 : PySem.W.keepIn K (.ref f8) = true)
    {od9 an9 : Option Addr} {sl9 : Array (Option Value)} {oc9 kV9 dc9 pm9 cd9 ct9 : Value}
    (a9 : PySem.W.nsIn K mainGlobals "unpack_text" = some (some (.ref f9))) (l9 : K.lookup f9 = some ⟨oc9, od9, .func (PySem.W.fnOf "unpack_text" "unpack_text" (defArgs s_unpack_text) (defBody s_unpack_text) (defScope s_unpack_text) .none kV9 dc9 pm9 an9 cd9 ct9), sl9⟩) (c9 : PySem.W.codeIn K cd9 "unpack_text" = true) (k9 : PySem.W.keepIn K (.ref f9) = true)
    {od10 an10 : Option Addr} {sl10 : Array (Option Value)} {oc10 kV10 dc10 pm10 cd10 ct10 : Value}
    (a10 : PySem.W.nsIn K mainGlobals "unpack_plain" = some (some (.ref f10))) (l10 : K.lookup f10 = some ⟨oc10, od10, .func (PySem.W.fnOf "unpack_plain" "unpack_plain" (defArgs s_unpack_plain) (defBody s_unpack_plain) (defScope s_unpack_plain) .none kV10 dc10 pm10 an10 cd10 ct10), sl10⟩) (c10 : PySem.W.codeIn K cd10 "unpack_plain" = true) (k10 : PySem.W.keepIn K (.ref f10) = true)
    {od11 an11 : Option Addr} {sl11 : Array (Option Value)} {oc11 kV11 dc11 pm11 cd11 ct11 : Value}
    (a11 : PySem.W.nsIn K mainGlobals "unpack" = some (some (.ref f11))) (l11 : K.lookup f11 = some ⟨oc11, od11, .func (PySem.W.fnOf "unpack" "unpack" (defArgs s_unpack) (defBody s_unpack) (defScope s_unpack) .none kV11 dc11 pm11 an11 cd11 ct11), sl11⟩) (c11 : PySem.W.codeIn K cd11 "unpack" = true) (k11 : PySem.W.keepIn K (.ref f11) = true)
    {od12 an12 : Option Addr} {sl12 : Array (Option Value)} {oc12 kV12 dc12 pm12 cd12 ct12 : Value}
    (a12 : PySem.W.nsIn K mainGlobals "_law_number" = some (some (.ref f12))) (l12 : K.lookup f12 = some ⟨oc12, od12, .func (PySem.W.fnOf "_law_number" "_law_number" (defArgs s_law_number) (defBody s_law_number) (defScope s_law_number) .none kV12 dc12 pm12 an12 cd12 ct12), sl12⟩) (c12 : PySem.W.codeIn K cd12 "_law_number" = true) (k12 : PySem.W.keepIn K (.ref f12) = true)
    {od13 an13 : Option Addr} {sl13 : Array (Option Value)} {oc13 kV13 dc13 pm13 cd13 ct13 : Value}
    (a13 : PySem.W.nsIn K mainGlobals "_law_take" = some (some (.ref f13))) (l13 : K.lookup f13 = some ⟨oc13, od13, .func (PySem.W.fnOf "_law_take" "_law_take" (defArgs s_law_take) (defBody s_law_take) (defScope s_law_take) .none kV13 dc13 pm13 an13 cd13 ct13), sl13⟩) (c13 : PySem.W.codeIn K cd13 "_law_take" = true) (k13 : PySem.W.keepIn K (.ref f13) = true)
    {od14 an14 : Option Addr} {sl14 : Array (Option Value)} {oc14 kV14 dc14 pm14 cd14 ct14 : Value}
    (a14 : PySem.W.nsIn K mainGlobals "_law_number_of" = some (some (.ref f14))) (l14 : K.lookup f14 = some ⟨oc14, od14, .func (PySem.W.fnOf "_law_number_of" "_law_number_of" (defArgs s_law_number_of) (defBody s_law_number_of) (defScope s_law_number_of) .none kV14 dc14 pm14 an14 cd14 ct14), sl14⟩) (c14 : PySem.W.codeIn K cd14 "_law_number_of" = true) (k14 : PySem.W.keepIn K (.ref f14) = true)
    {od15 an15 : Option Addr} {sl15 : Array (Option Value)} {oc15 kV15 dc15 pm15 cd15 ct15 : Value}
    (a15 : PySem.W.nsIn K mainGlobals "_law_text_of" = some (some (.ref f15))) (l15 : K.lookup f15 = some ⟨oc15, od15, .func (PySem.W.fnOf "_law_text_of" "_law_text_of" (defArgs s_law_text_of) (defBody s_law_text_of) (defScope s_law_text_of) .none kV15 dc15 pm15 an15 cd15 ct15), sl15⟩) (c15 : PySem.W.codeIn K cd15 "_law_text_of" = true) (k15 : PySem.W.keepIn K (.ref f15) = true)
    {od16 an16 : Option Addr} {sl16 : Array (Option Value)} {oc16 kV16 dc16 pm16 cd16 ct16 : Value}
    (a16 : PySem.W.nsIn K mainGlobals "_law_case_of" = some (some (.ref f16))) (l16 : K.lookup f16 = some ⟨oc16, od16, .func (PySem.W.fnOf "_law_case_of" "_law_case_of" (defArgs s_law_case_of) (defBody s_law_case_of) (defScope s_law_case_of) .none kV16 dc16 pm16 an16 cd16 ct16), sl16⟩) (c16 : PySem.W.codeIn K cd16 "_law_case_of" = true) (k16 : PySem.W.keepIn K (.ref f16) = true)
    {od17 an17 : Option Addr} {sl17 : Array (Option Value)} {oc17 kV17 dc17 pm17 cd17 ct17 : Value}
    (a17 : PySem.W.nsIn K mainGlobals "_law_refuses" = some (some (.ref f17))) (l17 : K.lookup f17 = some ⟨oc17, od17, .func (PySem.W.fnOf "_law_refuses" "_law_refuses" (defArgs s_law_refuses) (defBody s_law_refuses) (defScope s_law_refuses) .none kV17 dc17 pm17 an17 cd17 ct17), sl17⟩) (c17 : PySem.W.codeIn K cd17 "_law_refuses" = true) (k17 : PySem.W.keepIn K (.ref f17) = true)
    {od18 an18 : Option Addr} {sl18 : Array (Option Value)} {oc18 kV18 dc18 pm18 cd18 ct18 : Value}
    (a18 : PySem.W.nsIn K mainGlobals "law" = some (some (.ref f18))) (l18 : K.lookup f18 = some ⟨oc18, od18, .func (PySem.W.fnOf "law" "law" (defArgs s_law) (defBody s_law) (defScope s_law) .none kV18 dc18 pm18 an18 cd18 ct18), sl18⟩) (c18 : PySem.W.codeIn K cd18 "law" = true) (k18 : PySem.W.keepIn K (.ref f18) = true)
    (z_isinstance : PySem.W.nsIn K mainGlobals "isinstance" = some none)
    (z_int : PySem.W.nsIn K mainGlobals "int" = some none)
    (z_bool : PySem.W.nsIn K mainGlobals "bool" = some none)
    (z_tuple : PySem.W.nsIn K mainGlobals "tuple" = some none)
    (z_len : PySem.W.nsIn K mainGlobals "len" = some none)
    (z_list : PySem.W.nsIn K mainGlobals "list" = some none)
    (z_range : PySem.W.nsIn K mainGlobals "range" = some none)
    (z_reversed : PySem.W.nsIn K mainGlobals "reversed" = some none)
    (z_abs : PySem.W.nsIn K mainGlobals "abs" = some none)
    (z_ord : PySem.W.nsIn K mainGlobals "ord" = some none)
    (z_max : PySem.W.nsIn K mainGlobals "max" = some none)
    (z_min : PySem.W.nsIn K mainGlobals "min" = some none)
    {t_NOTHING : Tok} (g_NOTHING : PySem.W.nsIn K mainGlobals "NOTHING" = some (some (.int 0 t_NOTHING)))
    {t_NUMBER : Tok} (g_NUMBER : PySem.W.nsIn K mainGlobals "NUMBER" = some (some (.int 1 t_NUMBER)))
    {t_MINUS : Tok} (g_MINUS : PySem.W.nsIn K mainGlobals "MINUS" = some (some (.int 2 t_MINUS)))
    {t_TEXT : Tok} (g_TEXT : PySem.W.nsIn K mainGlobals "TEXT" = some (some (.int 3 t_TEXT)))
    {t_MANY : Tok} (g_MANY : PySem.W.nsIn K mainGlobals "MANY" = some (some (.int 4 t_MANY)))
    {t_LINE_END : Tok} (g_LINE_END : PySem.W.nsIn K mainGlobals "LINE_END" = some (some (.int 10 t_LINE_END)))
    {t_BARRED : Tok} (g_BARRED : PySem.W.nsIn K mainGlobals "BARRED" = some (some (.int 37 t_BARRED)))
    {t_SIGNS : Tok} (g_SIGNS : PySem.W.nsIn K mainGlobals "SIGNS" = some (some (.str SG t_SIGNS)))
    {C_Malformed : Addr} (n_Malformed : PySem.W.nsIn K mainGlobals "Malformed" = some (some (.ref C_Malformed)))
    {C_FollowError : Addr} (n_FollowError : PySem.W.nsIn K mainGlobals "FollowError" = some (some (.ref C_FollowError)))
    (q_Malformed : PySem.W.excIn K C_Malformed [.type "ValueError", .type "Exception", .type "BaseException", .type "object"] "ValueError.__new__" = true)
    (kp_Malformed : PySem.W.keepIn K (.ref C_Malformed) = true)
    (b_Malformed : PySem.W.subIn K (.ref C_Malformed) (.type "BaseException") = some true)
    (t_Malformed : PySem.W.typeIn K (.ref C_Malformed) = some (.type "type"))
    (q_FollowError : PySem.W.excIn K C_FollowError [.type "ValueError", .type "Exception", .type "BaseException", .type "object"] "ValueError.__new__" = true)
    (kp_FollowError : PySem.W.keepIn K (.ref C_FollowError) = true)
    (b_FollowError : PySem.W.subIn K (.ref C_FollowError) (.type "BaseException") = some true)
    (t_FollowError : PySem.W.typeIn K (.ref C_FollowError) = some (.type "type"))
    (e1_Malformed : PySem.W.findIn K (.ref C_Malformed) "__getattribute__" = some (some (.builtin "BaseException.__getattribute__")))
    (e2_Malformed : PySem.W.findIn K (.ref C_Malformed) "__getattr__" = some none)
    (e4_Malformed : PySem.W.hasDictIn K C_Malformed = true)
    (e5_Malformed : PySem.W.findIn K (.ref C_Malformed) "__class__" = some (some (.builtin "object.__class__")))
    (e6_Malformed : PySem.W.specialIn K (.builtin "object.__class__") "__get__" = some (some (.builtin "getset_descriptor.__get__")))
    (e7_Malformed : PySem.W.takesIn K (.builtin "object.__class__") = some true)
    (e8_Malformed : PySem.W.mroIn K C_Malformed (.type "object") = some true)
    (exm : PySem.W.exmOne K (.ref C_Malformed) (.ref C_FollowError) = some true)
    (kit : PySem.W.kitOne K (.ref C_Malformed) (.ref C_Malformed) = some true)
    : ∃ fd : FuncData, (∀ (s : Shared) (v : Value), BindsTo s fd ⟨[v], []⟩ [("script", v)]) ∧ ∀ base : Heap, K.In base → base.Ns mainGlobals mg → FnOk l.prog w K mg base CX0 6 fa fd ["script"] (spOf K T_law) := by
  have e := hfa.symm.trans (PySem.W.mg_of X G a18)
  cases e
  have T : Tx K mg C_Malformed C_FollowError := ⟨PySem.W.mg_none_of X G z_isinstance, PySem.W.mg_none_of X G z_int, PySem.W.mg_none_of X G z_bool, PySem.W.mg_none_of X G z_tuple, PySem.W.mg_none_of X G z_len, PySem.W.mg_none_of X G z_list, PySem.W.mg_none_of X G z_range, PySem.W.mg_none_of X G z_reversed, PySem.W.mg_none_of X G z_abs, PySem.W.mg_none_of X G z_ord, PySem.W.mg_none_of X G z_max, PySem.W.mg_none_of X G z_min, ⟨_, PySem.W.mg_of X G g_NOTHING, ⟨_, rfl⟩⟩, ⟨_, PySem.W.mg_of X G g_NUMBER, ⟨_, rfl⟩⟩, ⟨_, PySem.W.mg_of X G g_MINUS, ⟨_, rfl⟩⟩, ⟨_, PySem.W.mg_of X G g_TEXT, ⟨_, rfl⟩⟩, ⟨_, PySem.W.mg_of X G g_MANY, ⟨_, rfl⟩⟩, ⟨_, PySem.W.mg_of X G g_LINE_END, ⟨_, rfl⟩⟩, ⟨_, PySem.W.mg_of X G g_BARRED, ⟨_, rfl⟩⟩, ⟨_, PySem.W.mg_of X G g_SIGNS, ⟨_, rfl⟩⟩, ⟨PySem.W.mg_of X G n_Malformed, q_Malformed, kp_Malformed, b_Malformed, t_Malformed⟩, ⟨PySem.W.mg_of X G n_FollowError, q_FollowError, kp_FollowError, b_FollowError, t_FollowError⟩, exm, ⟨e1_Malformed, e2_Malformed, b_Malformed, e4_Malformed, e5_Malformed, e6_Malformed, e7_Malformed, e8_Malformed⟩, kit⟩
  have F_is_integer : Dl K mg "is_integer" s_is_integer := dl_mk X G a0 l0 c0 k0
  have F_low_octets : Dl K mg "low_octets" s_low_octets := dl_mk X G a1 l1 c1 k1
  have F_number_of : Dl K mg "number_of" s_number_of := dl_mk X G a2 l2 c2 k2
  have F_size_octets : Dl K mg "size_octets" s_size_octets := dl_mk X G a3 l3 c3 k3
  have F_pack_plain : Dl K mg "pack_plain" s_pack_plain := dl_mk X G a4 l4 c4 k4
  have F_pack : Dl K mg "pack" s_pack := dl_mk X G a5 l5 c5 k5
  have F_need : Dl K mg "need" s_need := dl_mk X G a6 l6 c6 k6
  have F_unpack_number : Dl K mg "unpack_number" s_unpack_number := dl_mk X G a7 l7 c7 k7
  have F_sign_of : Dl K mg "sign_of" s_sign_of := dl_mk X G a8 l8 c8 k8
  have F_unpack_text : Dl K mg "unpack_text" s_unpack_text := dl_mk X G a9 l9 c9 k9
  have F_unpack_plain : Dl K mg "unpack_plain" s_unpack_plain := dl_mk X G a10 l10 c10 k10
  have F_unpack : Dl K mg "unpack" s_unpack := dl_mk X G a11 l11 c11 k11
  have F_law_number : Dl K mg "_law_number" s_law_number := dl_mk X G a12 l12 c12 k12
  have F_law_take : Dl K mg "_law_take" s_law_take := dl_mk X G a13 l13 c13 k13
  have F_law_number_of : Dl K mg "_law_number_of" s_law_number_of := dl_mk X G a14 l14 c14 k14
  have F_law_text_of : Dl K mg "_law_text_of" s_law_text_of := dl_mk X G a15 l15 c15 k15
  have F_law_case_of : Dl K mg "_law_case_of" s_law_case_of := dl_mk X G a16 l16 c16 k16
  have F_law_refuses : Dl K mg "_law_refuses" s_law_refuses := dl_mk X G a17 l17 c17 k17
  have FL := fun_mk (st := s_law) l18 c18 k18
  refine ⟨PySem.W.fnOf "law" "law" (defArgs s_law) (defBody s_law) (defScope s_law) .none kV18 dc18 pm18 an18 cd18 ct18, fun s v => .of_eq rfl, fun base _ _ => ?_⟩
  · have Gii := d_is_integer (P := l.prog) (w := w) (base := base) T F_is_integer
    have Glo := d_low_octets (P := l.prog) (w := w) (base := base) T F_low_octets
    have Gno := d_number_of (P := l.prog) (w := w) (base := base) T F_number_of
    have Gso := d_size_octets (P := l.prog) (w := w) (base := base) T F_size_octets
    have Gpp := d_pack_plain T F_pack_plain Gii Glo Gso
    have Gpa := d_pack T F_pack Glo Gpp
    have Gne := d_need (P := l.prog) (w := w) (base := base) T F_need
    have Gun := d_unpack_number T F_unpack_number Gne Gno
    have Gsi := d_sign_of (P := l.prog) (w := w) (base := base) T F_sign_of
    have Gut := d_unpack_text T F_unpack_text Gne Gno Gsi
    have Gup := d_unpack_plain T F_unpack_plain Gne Gun Gut
    have Gua := d_unpack T F_unpack Gne Gno Gup
    have Gnu := d_law_number (P := l.prog) (w := w) (base := base) T F_law_number
    have Gta := d_law_take (P := l.prog) (w := w) (base := base) T F_law_take
    have Gln := d_law_number_of (P := l.prog) (w := w) (base := base) T F_law_number_of
    have Glt := d_law_text_of (P := l.prog) (w := w) (base := base) T F_law_text_of
    have Gca := d_law_case_of T F_law_case_of Gln Glt
    have Gre := d_law_refuses T F_law_refuses Gua
    exact ok_law T FL Gpa Gua Gnu Gta Gca Gre
theorem walk {l : PySem.W.OpenLaw} {q : Program} {loose : List Str} {XP : (Str → Option Value) → Heap → Prop} {YP : World → Heap → Prop} {d : DefRec} {K : Params → PySem.W.Frag} (hn : l.most = some 63) (hdf : d.params.defaults = [])
    (hY : ∀ (w : World) (h : Heap), YP w h → (K w.params).In h)
    (F : ∀ (w : World) (mg : Str → Option Value) (fa : Addr) (h : Heap), (K w.params).In h → h.Ns mainGlobals mg → mg d.name = some (.ref fa) →
      ∃ fd : FuncData, (∀ (s : Shared) (u : Value), BindsTo s fd ⟨[u], []⟩ [("script", u)]) ∧ ∀ base : Heap, (K w.params).In base → base.Ns mainGlobals mg → FnOk l.prog w (K w.params) mg base CX0 6 fa fd ["script"] (spOf (K w.params) T_law)) :
    PySem.W.WalkO q loose XP YP l.row.toRowW d [] (fun f vs => PySem.call f vs) :=
  L2.walk_of (n := 63) (k := 6) (x := "script") (CX := fun _ => CX0) (sp := fun w => spOf (K w.params) T_law) hn (by decide) hdf ⟨rfl, by decide, by decide⟩ hY F (fun _ _ a ns hl _ hS => law_sp hS fun R h => law_T ns hl R h) fun _ _ _ _ _ z => z
end K01
end
open PySem PySem.W PyProof.Rows
set_option maxRecDepth 100000 in
set_option maxHeartbeats 0 in
theorem PySem.Challenge.cw_herefrom_k01_packs_of_all_sizes_holds : PySem.Challenge.rw_herefrom_k01_packs_of_all_sizes.Holds := by
  w_on; o_law; k_head; (case hw => w_witness2)
  k_fill
  refine K01.walk (l := PySem.Challenge.rw_herefrom_k01_packs_of_all_sizes) rfl rfl (fun w h Y => PySem.W.kIn_of Y) ?F
  case F =>
    intro w mg fa h KX G hmg
    refine' K01.all_mk KX G hmg ?a0 ?l0 ?c0 ?k0 ?a1 ?l1 ?c1 ?k1 ?a2 ?l2 ?c2 ?k2 ?a3 ?l3 ?c3 ?k3 ?a4 ?l4 ?c4 ?k4 ?a5 ?l5 ?c5 ?k5 ?a6 ?l6 ?c6 ?k6 ?a7 ?l7 ?c7 ?k7 ?a8 ?l8 ?c8 ?k8 ?a9 ?l9 ?c9 ?k9 ?a10 ?l10 ?c10 ?k10 ?a11 ?l11 ?c11 ?k11 ?a12 ?l12 ?c12 ?k12 ?a13 ?l13 ?c13 ?k13 ?a14 ?l14 ?c14 ?k14 ?a15 ?l15 ?c15 ?k15 ?a16 ?l16 ?c16 ?k16 ?a17 ?l17 ?c17 ?k17 ?a18 ?l18 ?c18 ?k18 ?z_isinstance ?z_int ?z_bool ?z_tuple ?z_len ?z_list ?z_range ?z_reversed ?z_abs ?z_ord ?z_max ?z_min ?g_NOTHING ?g_NUMBER ?g_MINUS ?g_TEXT ?g_MANY ?g_LINE_END ?g_BARRED ?g_SIGNS ?n_Malformed ?n_FollowError ?q_Malformed ?kp_Malformed ?b_Malformed ?t_Malformed ?q_FollowError ?kp_FollowError ?b_FollowError ?t_FollowError ?e1_Malformed ?e2_Malformed ?e4_Malformed ?e5_Malformed ?e6_Malformed ?e7_Malformed ?e8_Malformed ?exm ?kit
    (case a0 => k_is)
    (case l0 => k_is)
    (case c0 => k_is)
    (case k0 => k_is)
    (case a1 => k_is)
    (case l1 => k_is)
    (case c1 => k_is)
    (case k1 => k_is)
    (case a2 => k_is)
    (case l2 => k_is)
    (case c2 => k_is)
    (case k2 => k_is)
    (case a3 => k_is)
    (case l3 => k_is)
    (case c3 => k_is)
    (case k3 => k_is)
    (case a4 => k_is)
    (case l4 => k_is)
    (case c4 => k_is)
    (case k4 => k_is)
    (case a5 => k_is)
    (case l5 => k_is)
    (case c5 => k_is)
    (case k5 => k_is)
    (case a6 => k_is)
    (case l6 => k_is)
    (case c6 => k_is)
    (case k6 => k_is)
    (case a7 => k_is)
    (case l7 => k_is)
    (case c7 => k_is)
    (case k7 => k_is)
    (case a8 => k_is)
    (case l8 => k_is)
    (case c8 => k_is)
    (case k8 => k_is)
    (case a9 => k_is)
    (case l9 => k_is)
    (case c9 => k_is)
    (case k9 => k_is)
    (case a10 => k_is)
    (case l10 => k_is)
    (case c10 => k_is)
    (case k10 => k_is)
    (case a11 => k_is)
    (case l11 => k_is)
    (case c11 => k_is)
    (case k11 => k_is)
    (case a12 => k_is)
    (case l12 => k_is)
    (case c12 => k_is)
    (case k12 => k_is)
    (case a13 => k_is)
    (case l13 => k_is)
    (case c13 => k_is)
    (case k13 => k_is)
    (case a14 => k_is)
    (case l14 => k_is)
    (case c14 => k_is)
    (case k14 => k_is)
    (case a15 => k_is)
    (case l15 => k_is)
    (case c15 => k_is)
    (case k15 => k_is)
    (case a16 => k_is)
    (case l16 => k_is)
    (case c16 => k_is)
    (case k16 => k_is)
    (case a17 => k_is)
    (case l17 => k_is)
    (case c17 => k_is)
    (case k17 => k_is)
    (case a18 => k_is)
    (case l18 => k_is)
    (case c18 => k_is)
    (case k18 => k_is)
    (case z_isinstance => k_is)
    (case z_int => k_is)
    (case z_bool => k_is)
    (case z_tuple => k_is)
    (case z_len => k_is)
    (case z_list => k_is)
    (case z_range => k_is)
    (case z_reversed => k_is)
    (case z_abs => k_is)
    (case z_ord => k_is)
    (case z_max => k_is)
    (case z_min => k_is)
    (case g_NOTHING => k_is)
    (case g_NUMBER => k_is)
    (case g_MINUS => k_is)
    (case g_TEXT => k_is)
    (case g_MANY => k_is)
    (case g_LINE_END => k_is)
    (case g_BARRED => k_is)
    (case g_SIGNS => k_is)
    (case n_Malformed => k_is)
    (case n_FollowError => k_is)
    (case q_Malformed => k_exc)
    (case kp_Malformed => first | rfl | k_is)
    (case b_Malformed => first | rfl | k_is)
    (case t_Malformed => first | rfl | k_is)
    (case q_FollowError => k_exc)
    (case kp_FollowError => first | rfl | k_is)
    (case b_FollowError => first | rfl | k_is)
    (case t_FollowError => first | rfl | k_is)
    (case e1_Malformed => first | rfl | k_is)
    (case e2_Malformed => first | rfl | k_is)
    (case e4_Malformed => first | rfl | k_is)
    (case e5_Malformed => first | rfl | k_is)
    (case e6_Malformed => first | rfl | k_is)
    (case e7_Malformed => first | rfl | k_is)
    (case e8_Malformed => first | rfl | k_is)
    (case exm => first | rfl | k_is)
    (case kit => first | rfl | k_is)
#print axioms PySem.Challenge.cw_herefrom_k01_packs_of_all_sizes_holds

