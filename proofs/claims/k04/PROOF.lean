import PyProof.Rows.All
import Wide.All
import OpenK.AllK
import Wide.FinOn
import HandS.ForMost
import HandS.IsInst
import HandS.Zip
import HandS.TupAny
import HandS.TupMul
import HandS.Style
import HandS.Deep
import HandS.Wide
import HandS.TupLe
import HandS.TupSets
import KE.DataMinMax
import KE.GoesMore
import HandS.SortOrd
import HandS.SortInts
import HandS.ForExc
import HandS.ExcIs
import HandS.Dict
import HandS.DictTup
import HandS.Conv
import HandS.Text
import PySem.Challenge.RW_clockcurve_k04_whole_read
set_option Elab.async false
set_option linter.all false
set_option maxRecDepth 100000
-- part Cc0
set_option maxHeartbeats 2000000
/-! A layer of data over the hand layer: names hold plain data (PyData), or lists and dicts that the body itself changes. -/
namespace Cc
open PySem PySem.Spec PyProof.Rows L2

abbrev Dt := PyData

/-! ### heaps that grow -/
def Ex (H H' : Hp) : Prop := ∀ a o, H a = some o → H' a = some o
theorem Ex.refl (H : Hp) : Ex H H := fun _ _ h => h
theorem Ex.trans {H H1 H2 : Hp} (a : Ex H H1) (b : Ex H1 H2) : Ex H H2 := fun x o h => b x o (a x o h)
theorem Ex.new {H : Hp} {p : Addr} {o : HO} (h : H p = none) : Ex H (upd H p o) := fun a u e => by
  rw [upd_ne (ne_of_none e h)]; exact e
theorem Ex.back {H H' : Hp} {p : Addr} (e : Ex H H') (h : H' p = none) : H p = none := by
  cases q : H p with
  | none => rfl
  | some o => rw [e p o q] at h; cases h
theorem Ex.sqt {K : PySem.W.Frag} {H H' : Hp} {a : Addr} {xs : List V} (e : Ex H H') (h : SqT K H a xs) : SqT K H' a xs := by
  rcases h with (h | ⟨o, h⟩) | h
  · exact .inl (.inl (e _ _ h))
  · exact .inl (.inr ⟨o, e _ _ h⟩)
  · exact .inr h
theorem Ex.sql {K : PySem.W.Frag} {H H' : Hp} {a : Addr} {xs : List V} (e : Ex H H') (h : SqL K H a xs) : SqL K H' a xs := by
  rcases h with (h | ⟨o, h⟩) | h
  · exact .inl (.inl (e _ _ h))
  · exact .inl (.inr ⟨o, e _ _ h⟩)
  · exact .inr h

/-- what stands for a datum, over the heap of what never changes again -/
inductive Rp (K : PySem.W.Frag) (G : Hp) : V → Dt → Prop
  | non : Rp K G .non .none
  | bl (b : Bool) : Rp K G (.bl b) (.bool b)
  | int (i : Int) : Rp K G (.int i) (.int i)
  | str (x : Str) : Rp K G (.str x) (.str x)
  | lst {a : Addr} {xs : List V} {ds : List Dt} (h : G a = some (.lst xs)) (hl : xs.length = ds.length) (hs : ∀ (i : Nat) (x : V) (d : Dt), xs[i]? = some x → ds[i]? = some d → Rp K G x d) : Rp K G (.ref a) (.list ds)
  | tup {a : Addr} {xs : List V} {ds : List Dt} (h : G a = some (.tup xs)) (hl : xs.length = ds.length) (hs : ∀ (i : Nat) (x : V) (d : Dt), xs[i]? = some x → ds[i]? = some d → Rp K G x d) : Rp K G (.ref a) (.tuple ds)
abbrev Rps (K : PySem.W.Frag) (G : Hp) : List V → List Dt → Prop := Paired (Rp K G)

theorem paired_of {α β : Type} {F : α → β → Prop} : ∀ {xs : List α} {ys : List β}, xs.length = ys.length → (∀ (i : Nat) (x : α) (y : β), xs[i]? = some x → ys[i]? = some y → F x y) → Paired F xs ys
  | [], [], _, _ => .nil
  | x :: xs, y :: ys, hl, h => .cons (h 0 x y rfl rfl) (paired_of (by simpa using hl) fun i a b ha hb => h (i + 1) a b ha hb)
  | [], _ :: _, hl, _ => by simp at hl
  | _ :: _, [], hl, _ => by simp at hl
theorem paired_at {α β : Type} {F : α → β → Prop} : ∀ {xs : List α} {ys : List β}, Paired F xs ys → ∀ (i : Nat) (x : α) (y : β), xs[i]? = some x → ys[i]? = some y → F x y
  | _, _, .nil, _, _, _, h, _ => by simp at h
  | _, _, .cons r t, 0, x, y, hx, hy => by
    simp at hx hy; subst hx; subst hy; exact r
  | _, _, .cons r t, i + 1, x, y, hx, hy => paired_at t i x y (by simpa using hx) (by simpa using hy)
theorem paired_len {α β : Type} {F : α → β → Prop} : ∀ {xs : List α} {ys : List β}, Paired F xs ys → xs.length = ys.length
  | _, _, .nil => rfl
  | _, _, .cons _ t => by simp [paired_len t]
theorem paired_get {α β : Type} {F : α → β → Prop} {xs : List α} {ys : List β} (h : Paired F xs ys) {i : Nat} {y : β} (hy : ys[i]? = some y) : ∃ x, xs[i]? = some x ∧ F x y := by
  obtain ⟨h1, _⟩ := List.getElem?_eq_some_iff.mp hy
  have h2 : i < xs.length := by rw [paired_len h]; exact h1
  exact ⟨xs[i], List.getElem?_eq_getElem h2, paired_at h i _ _ (List.getElem?_eq_getElem h2) hy⟩
theorem paired_getL {α β : Type} {F : α → β → Prop} {xs : List α} {ys : List β} (h : Paired F xs ys) {i : Nat} {x : α} (hx : xs[i]? = some x) : ∃ y, ys[i]? = some y ∧ F x y := by
  obtain ⟨h1, _⟩ := List.getElem?_eq_some_iff.mp hx
  have h2 : i < ys.length := by rw [← paired_len h]; exact h1
  exact ⟨ys[i], List.getElem?_eq_getElem h2, paired_at h i _ _ hx (List.getElem?_eq_getElem h2)⟩
theorem paired_imp {α β : Type} {F F' : α → β → Prop} (f : ∀ x y, F x y → F' x y) : ∀ {xs : List α} {ys : List β}, Paired F xs ys → Paired F' xs ys
  | _, _, .nil => .nil
  | _, _, .cons r t => .cons (f _ _ r) (paired_imp f t)
theorem paired_app {α β : Type} {F : α → β → Prop} : ∀ {xs xs' : List α} {ys ys' : List β}, Paired F xs ys → Paired F xs' ys' → Paired F (xs ++ xs') (ys ++ ys')
  | _, _, _, _, .nil, h => h
  | _, _, _, _, .cons r t, h => .cons r (paired_app t h)
theorem paired_take {α β : Type} {F : α → β → Prop} : ∀ {xs : List α} {ys : List β} (n : Nat), Paired F xs ys → Paired F (xs.take n) (ys.take n)
  | _, _, 0, _ => .nil
  | _, _, _ + 1, .nil => .nil
  | _, _, n + 1, .cons r t => .cons r (paired_take n t)
theorem paired_drop {α β : Type} {F : α → β → Prop} : ∀ {xs : List α} {ys : List β} (n : Nat), Paired F xs ys → Paired F (xs.drop n) (ys.drop n)
  | _, _, 0, r => r
  | _, _, _ + 1, .nil => .nil
  | _, _, n + 1, .cons _ t => paired_drop n t
theorem paired_rev {α β : Type} {F : α → β → Prop} : ∀ {xs : List α} {ys : List β}, Paired F xs ys → Paired F xs.reverse ys.reverse
  | _, _, .nil => .nil
  | _, _, .cons r t => by
    rw [List.reverse_cons, List.reverse_cons]
    exact paired_app (paired_rev t) (.cons r .nil)
theorem paired_rep {α β : Type} {F : α → β → Prop} {xs : List α} {ys : List β} (h : Paired F xs ys) : ∀ n : Nat, Paired F (List.replicate n xs).flatten (List.replicate n ys).flatten
  | 0 => .nil
  | n + 1 => by
    rw [List.replicate_succ, List.replicate_succ, List.flatten_cons, List.flatten_cons]
    exact paired_app h (paired_rep h n)
theorem paired_set {α β : Type} {F : α → β → Prop} {x : α} {y : β} (h : F x y) : ∀ {xs : List α} {ys : List β} (i : Nat), Paired F xs ys → Paired F (xs.set i x) (ys.set i y)
  | _, _, _, .nil => .nil
  | _, _, 0, .cons _ t => .cons h t
  | _, _, i + 1, .cons r t => .cons r (paired_set h i t)

section
variable {K : PySem.W.Frag} {G G' H H' : Hp} {v : V} {d : Dt}
theorem Rp.mk_lst {a : Addr} {xs : List V} {ds : List Dt} (h : G a = some (.lst xs)) (r : Rps K G xs ds) : Rp K G (.ref a) (.list ds) := .lst h (paired_len r) (paired_at r)
theorem Rp.mk_tup {a : Addr} {xs : List V} {ds : List Dt} (h : G a = some (.tup xs)) (r : Rps K G xs ds) : Rp K G (.ref a) (.tuple ds) := .tup h (paired_len r) (paired_at r)
theorem Rp.of_lst {v : V} {ds : List Dt} (r : Rp K G v (.list ds)) : ∃ a xs, v = .ref a ∧ G a = some (.lst xs) ∧ Rps K G xs ds := by
  cases r with
  | lst h hl hs => exact ⟨_, _, rfl, h, paired_of hl hs⟩
theorem Rp.of_tup {v : V} {ds : List Dt} (r : Rp K G v (.tuple ds)) : ∃ a xs, v = .ref a ∧ G a = some (.tup xs) ∧ Rps K G xs ds := by
  cases r with
  | tup h hl hs => exact ⟨_, _, rfl, h, paired_of hl hs⟩
theorem Rp.of_int {v : V} {i : Int} (r : Rp K G v (.int i)) : v = .int i := by cases r; rfl
theorem Rp.of_bl {v : V} {i : Bool} (r : Rp K G v (.bool i)) : v = .bl i := by cases r; rfl
theorem Rp.of_str {v : V} {i : Str} (r : Rp K G v (.str i)) : v = .str i := by cases r; rfl
theorem Rp.of_non {v : V} (r : Rp K G v .none) : v = .non := by cases r; rfl
theorem Rp.no_dict {v : V} {kvs} (r : Rp K G v (.dict kvs)) : False := by cases r
theorem Rp.mono (e : Ex G G') (r : Rp K G v d) : Rp K G' v d := by
  induction r with
  | non => exact .non
  | bl b => exact .bl b
  | int i => exact .int i
  | str x => exact .str x
  | lst h hl hs ih => exact .lst (e _ _ h) hl ih
  | tup h hl hs ih => exact .tup (e _ _ h) hl ih
theorem Rps.mono {xs : List V} {ds : List Dt} (e : Ex G G') (r : Rps K G xs ds) : Rps K G' xs ds := paired_imp (fun _ _ h => h.mono e) r
theorem dps_of {xs : List V} {ds : List Dt} (h : Paired (Dp K G) xs ds) : DpAll K G xs ds := by
  induction h with
  | nil => exact .nil
  | cons r _ ih => exact .cons r ih
theorem Rp.dp (r : Rp K G v d) : Dp K G v d := by
  induction r with
  | non => exact .non
  | bl b => exact .bl b
  | int i => exact .int i
  | str x => exact .str x
  | lst h hl hs ih => exact .lst (SqL.of h) (dps_of (paired_of hl ih))
  | tup h hl hs ih => exact .tup (SqT.of h) (dps_of (paired_of hl ih))
end

/-! ### a step: from (G, H) to (G', H') -/
structure Step (G H G' H' : Hp) : Prop where
  g : Ex G G'
  h : Ex H H'
  gh : Ex G' H'
  fo : ∀ a o, H a = some o → (∀ xs, o ≠ .tup xs) → G' a = G a
section
variable {G H G1 H1 G2 H2 : Hp}
theorem Step.refl (e : Ex G H) : Step G H G H := ⟨.refl _, .refl _, e, fun _ _ _ _ => rfl⟩
theorem Step.trans (a : Step G H G1 H1) (b : Step G1 H1 G2 H2) : Step G H G2 H2 :=
  ⟨a.g.trans b.g, a.h.trans b.h, b.gh, fun x o e n => (b.fo x o (a.h x o e) n).trans (a.fo x o e n)⟩
theorem Step.new {p : Addr} {o : HO} (e : Ex G H) (h : H p = none) : Step G H (upd G p o) (upd H p o) := by
  refine ⟨.new (e.back h), .new h, fun a u q => ?_, fun a u q _ => upd_ne (ne_of_none q h)⟩
  by_cases ha : a = p
  · subst ha; rw [upd_same] at q ⊢; exact q
  · rw [upd_ne ha] at q ⊢; exact e a u q
/-- a new object that stays the body's own -/
theorem Step.newOwn {p : Addr} {o : HO} (e : Ex G H) (h : H p = none) : Step G H G (upd H p o) :=
  ⟨.refl _, .new h, e.trans (.new h), fun _ _ _ _ => rfl⟩
/-- a tuple that stands already is taken in -/
theorem Step.take {p : Addr} {xs : List V} (e : Ex G H) (h : H p = some (.tup xs)) : Step G H (upd G p (.tup xs)) H := by
  refine ⟨fun a u q => ?_, .refl _, fun a u q => ?_, fun a u q n => ?_⟩
  · by_cases ha : a = p
    · subst ha; have := e a u q; rw [h] at this; cases this; exact upd_same
    · rw [upd_ne ha]; exact q
  · by_cases ha : a = p
    · subst ha; rw [upd_same] at q; cases q; exact h
    · rw [upd_ne ha] at q; exact e a u q
  · exact upd_ne (fun z => by subst z; rw [h] at q; cases q; exact n xs rfl)
end

/-- what a name holds -/
inductive Sl
  | unk
  | val (d : Dt)
  | scr (ns : List Int)
  | own (ds : List Dt)
  | ownK (kvs : List (Key × Dt))
  | ownT (kvs : List (List Key × Dt))
def Sl.isOwn : Sl → Bool
  | .own _ | .ownK _ | .ownT _ => true
  | _ => false
def OwnRep (K : PySem.W.Frag) (G : Hp) : HO → Sl → Prop
  | .lst vs, .own ds => Rps K G vs ds
  | .dK kv, .ownK ds => kv.map (·.1) = ds.map (·.1) ∧ Rps K G (kv.map (·.2)) (ds.map (·.2))
  | .dT kv, .ownT ds => kv.map (·.1) = ds.map (·.1) ∧ Rps K G (kv.map (·.2)) (ds.map (·.2))
  | _, _ => False
theorem OwnRep.mono {K : PySem.W.Frag} {G G' : Hp} {o : HO} {s : Sl} (e : Ex G G') (h : OwnRep K G o s) : OwnRep K G' o s := by
  cases o <;> cases s <;> first
    | exact h.elim
    | exact Rps.mono e h
    | exact ⟨h.1, Rps.mono e h.2⟩
theorem OwnRep.nt {K : PySem.W.Frag} {G : Hp} {o : HO} {s : Sl} (h : OwnRep K G o s) : ∀ xs, o ≠ .tup xs := by
  intro xs e
  subst e
  cases s <;> exact h.elim
abbrev Dn := List Sl

structure EnvOk (K : PySem.W.Frag) (G H : Hp) (σ : L2.St) (ρ : Dn) : Prop where
  gh : Ex G H
  len : σ.length = ρ.length
  val : ∀ (i : Nat) (d : Dt), ρ[i]? = some (Sl.val d) → ∃ v : V, σ[i]? = some (some v) ∧ Rp K G v d
  scr : ∀ (i : Nat) (ns : List Int), ρ[i]? = some (Sl.scr ns) → ∃ a : Addr, σ[i]? = some (some (V.ref a)) ∧ SqL K G a (ns.map V.int)
  own : ∀ (i : Nat) (s : Sl), ρ[i]? = some s → s.isOwn = true → ∃ (a : Addr) (o : HO), σ[i]? = some (some (V.ref a)) ∧ G a = none ∧ H a = some o ∧ OwnRep K G o s
  sep : ∀ (i j : Nat) (s s' : Sl) (a : Addr), ρ[i]? = some s → s.isOwn = true → ρ[j]? = some s' → s'.isOwn = true → σ[i]? = some (some (V.ref a)) → σ[j]? = some (some (V.ref a)) → i = j

section
variable {K : PySem.W.Frag} {G H G' H' G0 H0 : Hp} {σ : L2.St} {ρ : Dn}
theorem EnvOk.step (E : EnvOk K G H σ ρ) (s : Step G H G' H') : EnvOk K G' H' σ ρ where
  gh := s.gh
  len := E.len
  val := fun i d h => let ⟨v, h1, h2⟩ := E.val i d h; ⟨v, h1, h2.mono s.g⟩
  scr := fun i ns h => let ⟨a, h1, h2⟩ := E.scr i ns h; ⟨a, h1, s.g.sql h2⟩
  own := fun i sl h h' => let ⟨a, o, h1, h2, h3, h4⟩ := E.own i sl h h'; ⟨a, o, h1, (s.fo a o h3 h4.nt).trans h2, s.h a o h3, h4.mono s.g⟩
  sep := E.sep
theorem get_set_self {α : Type} {l : List α} {i : Nat} {x y : α} (h : (l.set i x)[i]? = some y) : y = x := by
  rw [List.getElem?_set] at h
  rw [if_pos rfl] at h
  split at h
  · exact (Option.some.inj h).symm
  · cases h
theorem get_set_ne {α : Type} {l : List α} {i j : Nat} {x : α} (h : i ≠ j) : (l.set i x)[j]? = l[j]? := List.getElem?_set_ne h
theorem get_set_lt {α : Type} {l : List α} {i : Nat} {x : α} (h : i < l.length) : (l.set i x)[i]? = some x := List.getElem?_set_self h
theorem lt_of_get {α : Type} {l : List α} {i : Nat} {x : α} (h : l[i]? = some x) : i < l.length := (List.getElem?_eq_some_iff.mp h).1
/-- a name gets a datum -/
theorem EnvOk.set (E : EnvOk K G H σ ρ) {i : Nat} {v : V} {d : Dt} (r : Rp K G v d) : EnvOk K G H (σ.set i (some v)) (ρ.set i (.val d)) where
  gh := E.gh
  len := by rw [List.length_set, List.length_set]; exact E.len
  val := fun j e h => by
    by_cases hj : i = j
    · subst hj
      have hl : i < σ.length := by rw [E.len]; have := lt_of_get h; rwa [List.length_set] at this
      have := get_set_self h
      cases this
      exact ⟨v, get_set_lt hl, r⟩
    · rw [get_set_ne hj] at h ⊢; exact E.val j e h
  scr := fun j ns h => by
    by_cases hj : i = j
    · subst hj; have := get_set_self h; cases this
    · rw [get_set_ne hj] at h ⊢; exact E.scr j ns h
  own := fun j s h hs => by
    by_cases hj : i = j
    · subst hj; have := get_set_self h; subst this; cases hs
    · rw [get_set_ne hj] at h ⊢; exact E.own j s h hs
  sep := fun j k s s' a h1 o1 h2 o2 g1 g2 => by
    by_cases hj : i = j
    · subst hj; have := get_set_self h1; subst this; cases o1
    · by_cases hk : i = k
      · subst hk; have := get_set_self h2; subst this; cases o2
      · rw [get_set_ne hj] at h1 g1
        rw [get_set_ne hk] at h2 g2
        exact E.sep j k s s' a h1 o1 h2 o2 g1 g2
/-- a name gets a new object that stays its own; p is not yet anyone's -/
theorem EnvOk.setOwn (E : EnvOk K G H σ ρ) {i : Nat} {p : Addr} {o : HO} {s : Sl} (ho : s.isOwn = true) (hg : G p = none) (hp : H p = some o) (r : OwnRep K G o s)
    (hn : ∀ (j : Nat) (s' : Sl) (a : Addr), ρ[j]? = some s' → s'.isOwn = true → σ[j]? = some (some (V.ref a)) → a ≠ p) : EnvOk K G H (σ.set i (some (.ref p))) (ρ.set i s) where
  gh := E.gh
  len := by rw [List.length_set, List.length_set]; exact E.len
  val := fun j e h => by
    by_cases hj : i = j
    · subst hj; have := get_set_self h; subst this; cases ho
    · rw [get_set_ne hj] at h ⊢; exact E.val j e h
  scr := fun j ns h => by
    by_cases hj : i = j
    · subst hj; have := get_set_self h; subst this; cases ho
    · rw [get_set_ne hj] at h ⊢; exact E.scr j ns h
  own := fun j s' h hs => by
    by_cases hj : i = j
    · subst hj
      have hl : i < σ.length := by rw [E.len]; have := lt_of_get h; rwa [List.length_set] at this
      have := get_set_self h; subst this
      exact ⟨p, o, get_set_lt hl, hg, hp, r⟩
    · rw [get_set_ne hj] at h ⊢; exact E.own j s' h hs
  sep := fun j k s1 s2 a h1 o1 h2 o2 g1 g2 => by
    by_cases hj : i = j
    · by_cases hk : i = k
      · rw [← hj, ← hk]
      · subst hj
        have q := get_set_self g1
        rw [get_set_ne hk] at h2 g2
        cases q
        exact absurd rfl (hn k s2 p h2 o2 g2)
    · by_cases hk : i = k
      · subst hk
        have q := get_set_self g2
        rw [get_set_ne hj] at h1 g1
        cases q
        exact absurd rfl (hn j s1 p h1 o1 g1)
      · rw [get_set_ne hj] at h1 g1
        rw [get_set_ne hk] at h2 g2
        exact E.sep j k s1 s2 a h1 o1 h2 o2 g1 g2
/-- the object of an own name is changed -/
theorem EnvOk.change (E : EnvOk K G H σ ρ) {i : Nat} {p : Addr} {o o' : HO} {s s' : Sl} (hi : ρ[i]? = some s) (hs : s.isOwn = true) (hs' : s'.isOwn = true) (hσ : σ[i]? = some (some (.ref p))) (hg : G p = none) (hp : H p = some o)
    (r : OwnRep K G o' s') : EnvOk K G (upd H p o') σ (ρ.set i s') where
  gh := fun a u q => by
    rw [upd_ne (fun e => by rw [e, hg] at q; cases q)]; exact E.gh a u q
  len := by rw [List.length_set]; exact E.len
  val := fun j e h => by
    by_cases hj : i = j
    · subst hj; have := get_set_self h; subst this; cases hs'
    · rw [get_set_ne hj] at h; exact E.val j e h
  scr := fun j ns h => by
    by_cases hj : i = j
    · subst hj; have := get_set_self h; subst this; cases hs'
    · rw [get_set_ne hj] at h
      exact E.scr j ns h
  own := fun j s1 h h' => by
    by_cases hj : i = j
    · subst hj; have := get_set_self h; subst this
      exact ⟨p, o', hσ, hg, upd_same, r⟩
    · rw [get_set_ne hj] at h
      obtain ⟨a, o1, h1, h2, h3, h4⟩ := E.own j s1 h h'
      refine ⟨a, o1, h1, h2, ?_, h4⟩
      rw [upd_ne]; exact h3
      rintro rfl
      exact hj (E.sep i j s s1 a hi hs h h' hσ h1)
  sep := fun j k s1 s2 a h1 o1 h2 o2 g1 g2 => by
    have f : ∀ (m : Nat) (sm : Sl), (ρ.set i s')[m]? = some sm → sm.isOwn = true → ∃ sm', ρ[m]? = some sm' ∧ sm'.isOwn = true := fun m sm hm om => by
      by_cases hj : i = m
      · subst hj; exact ⟨s, hi, hs⟩
      · rw [get_set_ne hj] at hm; exact ⟨sm, hm, om⟩
    obtain ⟨t1, a1, b1⟩ := f j s1 h1 o1
    obtain ⟨t2, a2, b2⟩ := f k s2 h2 o2
    exact E.sep j k t1 t2 a a1 b1 a2 b2 g1 g2
/-- a name is forgotten -/
theorem EnvOk.wipe1 (E : EnvOk K G H σ ρ) (i : Nat) : EnvOk K G H (σ.set i none) (ρ.set i .unk) where
  gh := E.gh
  len := by rw [List.length_set, List.length_set]; exact E.len
  val := fun j e h => by
    by_cases hj : i = j
    · subst hj; have := get_set_self h; cases this
    · rw [get_set_ne hj] at h ⊢; exact E.val j e h
  scr := fun j ns h => by
    by_cases hj : i = j
    · subst hj; have := get_set_self h; cases this
    · rw [get_set_ne hj] at h ⊢; exact E.scr j ns h
  own := fun j s h hs => by
    by_cases hj : i = j
    · subst hj; have := get_set_self h; subst this; cases hs
    · rw [get_set_ne hj] at h ⊢; exact E.own j s h hs
  sep := fun j k s s' a h1 o1 h2 o2 g1 g2 => by
    by_cases hj : i = j
    · subst hj; have := get_set_self h1; subst this; cases o1
    · by_cases hk : i = k
      · subst hk; have := get_set_self h2; subst this; cases o2
      · rw [get_set_ne hj] at h1 g1
        rw [get_set_ne hk] at h2 g2
        exact E.sep j k s s' a h1 o1 h2 o2 g1 g2
end
end Cc

-- part Cc1
set_option maxHeartbeats 2000000
namespace Cc
open PySem PySem.Spec PyProof.Rows L2

/-! ### readings by data -/
abbrev EF := Dn → Option Dt
abbrev TF := Dn → Option Bool
abbrev AF := Dn → Option (List Dt)
def can (K : PySem.W.Frag) (f : EF) : TE := fun σ H Q => ∃ G ρ d, EnvOk K G H σ ρ ∧ f ρ = some d ∧ ∀ v G' H', Step G H G' H' → Rp K G' v d → Q v H'
/-- a datum, or a list that the body may still change, its items settled -/
def RpW (K : PySem.W.Frag) (G H : Hp) (v : V) (d : Dt) : Prop := Rp K G v d ∨ ∃ a vs ds, v = .ref a ∧ d = .list ds ∧ H a = some (.lst vs) ∧ Rps K G vs ds
def canW (K : PySem.W.Frag) (f : EF) : TE := fun σ H Q => ∃ G ρ d, EnvOk K G H σ ρ ∧ f ρ = some d ∧ ∀ v G' H', Step G H G' H' → RpW K G' H' v d → Q v H'
def canT (K : PySem.W.Frag) (f : TF) : TT := fun σ H Q => ∃ G ρ b, EnvOk K G H σ ρ ∧ f ρ = some b ∧ ∀ G' H', Step G H G' H' → Q b H'
def canA (K : PySem.W.Frag) (f : AF) : TA := fun σ H Q => ∃ G ρ ds, EnvOk K G H σ ρ ∧ f ρ = some ds ∧ ∀ vs G' H', Step G H G' H' → Rps K G' vs ds → Q vs H'
def canAW (K : PySem.W.Frag) (f : AF) : TA := fun σ H Q => ∃ G ρ ds, EnvOk K G H σ ρ ∧ f ρ = some ds ∧ ∀ vs G' H', Step G H G' H' → Paired (RpW K G' H') vs ds → Q vs H'

section
variable {K : PySem.W.Frag} {G H G' H' : Hp} {v : V} {d : Dt}
theorem RpW.step (r : RpW K G H v d) (s : Step G H G' H') : RpW K G' H' v d := by
  rcases r with r | ⟨a, vs, ds, e1, e2, h, r⟩
  · exact .inl (r.mono s.g)
  · exact .inr ⟨a, vs, ds, e1, e2, s.h a _ h, Rps.mono s.g r⟩
theorem RpW.rp (e : Ex G H) (r : RpW K G H v d) : Rp K H v d := by
  rcases r with r | ⟨a, vs, ds, rfl, rfl, h, r⟩
  · exact r.mono e
  · exact .mk_lst h (Rps.mono e r)
theorem RpW.dp (e : Ex G H) (r : RpW K G H v d) : Dp K H v d := (r.rp e).dp
theorem RpW.int {i : Int} (r : RpW K G H v (.int i)) : v = .int i := by
  rcases r with r | ⟨a, vs, ds, e1, e2, h, r⟩
  · exact r.of_int
  · cases e2
theorem RpW.str {i : Str} (r : RpW K G H v (.str i)) : v = .str i := by
  rcases r with r | ⟨a, vs, ds, e1, e2, h, r⟩
  · exact r.of_str
  · cases e2
theorem RpW.bl {i : Bool} (r : RpW K G H v (.bool i)) : v = .bl i := by
  rcases r with r | ⟨a, vs, ds, e1, e2, h, r⟩
  · exact r.of_bl
  · cases e2
theorem RpW.non (r : RpW K G H v .none) : v = .non := by
  rcases r with r | ⟨a, vs, ds, e1, e2, h, r⟩
  · exact r.of_non
  · cases e2
theorem RpW.lst {ds : List Dt} (e : Ex G H) (r : RpW K G H v (.list ds)) : ∃ a xs, v = .ref a ∧ H a = some (.lst xs) ∧ Rps K G xs ds := by
  rcases r with r | ⟨a, vs, es, e1, e2, h, r⟩
  · obtain ⟨a, xs, e1, h, q⟩ := r.of_lst
    exact ⟨a, xs, e1, e _ _ h, q⟩
  · cases e2; exact ⟨a, vs, e1, h, r⟩
theorem RpW.tup {ds : List Dt} (e : Ex G H) (r : RpW K G H v (.tuple ds)) : ∃ a xs, v = .ref a ∧ SqT K H a xs ∧ Rps K G xs ds ∧ G a = some (.tup xs) := by
  rcases r with r | ⟨a, vs, es, e1, e2, h, r⟩
  · obtain ⟨a, xs, e1, h, q⟩ := r.of_tup
    exact ⟨a, xs, e1, SqT.of (e _ _ h), q, h⟩
  · cases e2
theorem RpW.strong {ds : List Dt} (r : RpW K G H v (.tuple ds)) : Rp K G v (.tuple ds) := by
  rcases r with r | ⟨a, vs, es, e1, e2, h, r⟩
  · exact r
  · cases e2
end

section
variable {X : Cx}
theorem pe_imp {e : Expr} {t t' : TE} (h : PE X e t) (m : ∀ σ H Q, t' σ H Q → t σ H Q) : PE X e t' := ⟨fun pins s σ H Q I q => h.run pins s σ H Q I (m σ H Q q)⟩
theorem pt_imp {e : Expr} {t t' : TT} (h : PT X e t) (m : ∀ σ H Q, t' σ H Q → t σ H Q) : PT X e t' := ⟨fun pins s σ H Q I q => h.run pins s σ H Q I (m σ H Q q)⟩
theorem pw_imp {e : Expr} {t t' : TT} (h : PW X e t) (m : ∀ σ H Q, t' σ H Q → t σ H Q) : PW X e t' := ⟨fun wh pins s σ H Q I q => h.run wh pins s σ H Q I (m σ H Q q)⟩
theorem pa_imp {e : List Expr} {t t' : TA} (h : PA X e t) (m : ∀ σ H Q, t' σ H Q → t σ H Q) : PA X e t' := ⟨fun pos pins s σ H Q I q => h.run pos pins s σ H Q I (m σ H Q q)⟩
theorem pss_imp {e : List Stmt} {t t' : TS} (h : PSs X e t) (m : ∀ D σ H, t' D σ H → t D σ H) : PSs X e t' := ⟨fun pins s σ H D I q => h.run pins s σ H D I (m D σ H q)⟩
theorem ps_imp {e : Stmt} {t t' : TS} (h : PS X e t) (m : ∀ D σ H, t' D σ H → t D σ H) : PS X e t' := ⟨fun pins s σ H D I q => h.run pins s σ H D I (m D σ H q)⟩

/-! ### names, constants -/
def slV : Option Sl → Option Dt
  | some (.val d) => some d
  | _ => none
def slW : Option Sl → Option Dt
  | some (.val d) => some d
  | some (.own ds) => some (.list ds)
  | _ => none
def getV (i : Nat) : EF := fun ρ => slV ρ[i]?
def getW (i : Nat) : EF := fun ρ => slW ρ[i]?
/-- a name that holds a datum -/
theorem dv (i : Nat) {x : Str} {pos : Pos} (hN : X.N[i]? = some x := by rfl) (hv : Vis X.env.scope x := by first | exact Or.inl rfl | exact Or.inr (Or.inl rfl) | exact Or.inr (Or.inr rfl)) (hd : (x == ("__debug__" : Str)) = false := by decide)
    (hcd : (x == ("__classdict__" : Str)) = false := by decide) : PE X (.Name x pos) (can X.K (getV i)) :=
  pe_imp (pv i hN hv hd hcd) fun σ H Q ⟨G, ρ, d, E, hf, k⟩ => by
    unfold getV slV at hf
    split at hf
    · next d' h =>
      cases hf
      obtain ⟨v, h1, h2⟩ := E.val i d h
      exact ⟨v, h1, k v G H (.refl E.gh) h2⟩
    · cases hf
/-- the same, or the body's own list -/
theorem dw (i : Nat) {x : Str} {pos : Pos} (hN : X.N[i]? = some x := by rfl) (hv : Vis X.env.scope x := by first | exact Or.inl rfl | exact Or.inr (Or.inl rfl) | exact Or.inr (Or.inr rfl)) (hd : (x == ("__debug__" : Str)) = false := by decide)
    (hcd : (x == ("__classdict__" : Str)) = false := by decide) : PE X (.Name x pos) (canW X.K (getW i)) :=
  pe_imp (pv i hN hv hd hcd) fun σ H Q ⟨G, ρ, d, E, hf, k⟩ => by
    unfold getW slW at hf
    split at hf
    · next d' h =>
      cases hf
      obtain ⟨v, h1, h2⟩ := E.val i d h
      exact ⟨v, h1, k v G H (.refl E.gh) (.inl h2)⟩
    · next ds h =>
      cases hf
      obtain ⟨a, o, h1, h2, h3, h4⟩ := E.own i _ h rfl
      cases o <;> first
        | exact h4.elim
        | exact ⟨.ref a, h1, k _ G H (.refl E.gh) (.inr ⟨a, _, ds, rfl, rfl, h3, h4⟩)⟩
    · cases hf
theorem wk {e : Expr} {f : EF} (h : PE X e (can X.K f)) : PE X e (canW X.K f) :=
  pe_imp h fun σ H Q ⟨G, ρ, d, E, hf, k⟩ => ⟨G, ρ, d, E, hf, fun v G' H' s r => k v G' H' s (.inl r)⟩
def cst (d : Dt) : EF := fun _ => some d
theorem d_tc {e : Expr} {v : V} {d : Dt} (h : PE X e (tC v)) (r : ∀ G, Rp X.K G v d) : PE X e (can X.K (cst d)) :=
  pe_imp h fun σ H Q ⟨G, ρ, d', E, hf, k⟩ => by cases hf; exact k v G H (.refl E.gh) (r G)
theorem dc_int {i : Int} {j : Nat} {pos : Pos} : PE X (.Constant (.int i) j pos) (can X.K (cst (.int i))) := d_tc pe_int fun _ => .int _
theorem dc_bl {i : Bool} {j : Nat} {pos : Pos} : PE X (.Constant (.bool i) j pos) (can X.K (cst (.bool i))) := d_tc pe_bl fun _ => .bl _
theorem dc_non {j : Nat} {pos : Pos} : PE X (.Constant .none j pos) (can X.K (cst .none)) := d_tc pe_non fun _ => .non
theorem dc_str {i : Str} {j : Nat} {pos : Pos} : PE X (.Constant (.str i) j pos) (can X.K (cst (.str i))) := d_tc pe_str fun _ => .str _

/-! ### operators -/
def e1 (g : Dt → Option Dt) (f : EF) : EF := fun ρ => (f ρ).bind g
def e2 (g : Dt → Dt → Option Dt) (f h : EF) : EF := fun ρ => (f ρ).bind fun d => (h ρ).bind fun e => g d e
def Op2 (K : PySem.W.Frag) (r : R2) (g : Dt → Dt → Option Dt) : Prop := ∀ x y G H d e c Q, Ex G H → RpW K G H x d → RpW K G H y e → g d e = some c → (∀ v G' H', Step G H G' H' → Rp K G' v c → Q v H') → r x y H Q
def Op1 (K : PySem.W.Frag) (r : V → Hp → VK → Prop) (g : Dt → Option Dt) : Prop := ∀ x G H d c Q, Ex G H → RpW K G H x d → g d = some c → (∀ v G' H', Step G H G' H' → Rp K G' v c → Q v H') → r x H Q
theorem op_can {K : PySem.W.Frag} {r : R2} {g : Dt → Dt → Option Dt} (hs : Op2 K r g) {f h : EF} {σ : L2.St} {H : Hp} {Q : VK} (w : can K (e2 g f h) σ H Q) : tOp r (canW K f) (canW K h) σ H Q := by
  obtain ⟨G, ρ, c, E, hf, k⟩ := w
  unfold e2 at hf
  obtain ⟨d, hd, hf⟩ := Option.bind_eq_some_iff.mp hf
  obtain ⟨e, he, hf⟩ := Option.bind_eq_some_iff.mp hf
  refine ⟨G, ρ, d, E, hd, fun v G1 H1 s1 r1 => ⟨G1, ρ, e, E.step s1, he, fun w G2 H2 s2 r2 => ?_⟩⟩
  exact hs _ _ G2 H2 d e c Q s2.gh (r1.step s2) r2 hf fun v G3 H3 s3 r3 => k v G3 H3 ((s1.trans s2).trans s3) r3
variable {a b : Expr} {f h : EF} {pos : Pos} {es : List Expr}
theorem d_bin {op : Operator} {r : R2} {g : Dt → Dt → Option Dt} (ho : OpR X (binaryOp op) r) (hs : Op2 X.K r g) (ha : PE X a (canW X.K f)) (hb : PE X b (canW X.K h)) : PE X (.BinOp a op b pos) (can X.K (e2 g f h)) :=
  pe_imp (pe_op ho ha hb) fun _ _ _ w => op_can hs w
theorem d_cmp {op : CmpOp} {r : R2} {g : Dt → Dt → Option Dt} (ho : OpR X (compareOp op) r) (hs : Op2 X.K r g) (hm : behindInMarks op b = false) (ha : PE X a (canW X.K f)) (hb : PE X b (canW X.K h)) : PE X (.Compare a [op] [b] pos) (can X.K (e2 g f h)) :=
  pe_imp (pe_cmpR ho ha hb hm) fun _ _ _ w => op_can hs w
def asB : Option Dt → Option Bool
  | some (.bool b) => some b
  | _ => none
def tB' (f : EF) : TF := fun ρ => asB (f ρ)
theorem asB_some {o : Option Dt} {b : Bool} (h : asB o = some b) : o = some (.bool b) := by
  unfold asB at h
  split at h
  · cases h; rfl
  · cases h
theorem dt_cmp {op : CmpOp} {r : R2} {g : Dt → Dt → Option Dt} (ho : OpR X (compareOp op) r) (hs : Op2 X.K r g) (hm : behindInMarks op b = false) (ha : PE X a (canW X.K f)) (hb : PE X b (canW X.K h)) : PT X (.Compare a [op] [b] pos) (canT X.K (tB' (e2 g f h))) :=
  pt_imp (pt_cmpR ho ha hb hm) fun σ H Q ⟨G, ρ, c, E, hf, k⟩ => by
    show tOp r (canW X.K f) (canW X.K h) σ H _
    refine op_can hs ⟨G, ρ, .bool c, E, asB_some hf, fun v G' H' s r => ⟨c, r.of_bl, k G' H' s⟩⟩
theorem d_ix {r : R2} {g : Dt → Dt → Option Dt} (ho : IxR X r) (hs : Op2 X.K r g) (hp : PlainIx b) (ha : PE X a (canW X.K f)) (hb : PE X b (canW X.K h)) : PE X (.Subscript a b pos) (can X.K (e2 g f h)) :=
  pe_imp (pe_ix ho ha hb hp) fun _ _ _ w => op_can hs w
theorem d_un {op : UnaryOp} {r : V → Hp → VK → Prop} {g : Dt → Option Dt} (ho : UnR X (unaryOp op) r) (hs : Op1 X.K r g) (ha : PE X a (canW X.K f)) : PE X (.UnaryOp op a pos) (can X.K (e1 g f)) :=
  pe_imp (pe_un ho ha) fun σ H Q ⟨G, ρ, c, E, hf, k⟩ => by
    obtain ⟨d, hd, hf⟩ := Option.bind_eq_some_iff.mp (show (f ρ).bind g = some c from hf)
    exact ⟨G, ρ, d, E, hd, fun v G1 H1 s1 r1 => hs _ G1 H1 d c Q s1.gh r1 hf fun v G3 H3 s3 r3 => k v G3 H3 (s1.trans s3) r3⟩
/-- a < b < c -/
def vChn (g g' : Dt → Dt → Option Dt) (f h l : EF) : EF := fun ρ => (f ρ).bind fun x => (h ρ).bind fun y => (asB (g x y)).bind fun k => if k then (l ρ).bind fun z => g' y z else some (.bool false)
theorem chn_can {K : PySem.W.Frag} {l : EF} {r r' : R2} {g g' : Dt → Dt → Option Dt} (hs : Op2 K r g) (hs' : Op2 K r' g') {σ : L2.St} {H : Hp} {Q : VK} (w : can K (vChn g g' f h l) σ H Q) : tChain r r' (canW K f) (canW K h) (canW K l) σ H Q := by
  obtain ⟨G, ρ, b, E, hf, k⟩ := w
  unfold vChn at hf
  obtain ⟨x, hx, hf⟩ := Option.bind_eq_some_iff.mp hf
  obtain ⟨y, hy, hf⟩ := Option.bind_eq_some_iff.mp hf
  obtain ⟨q, hq, hf⟩ := Option.bind_eq_some_iff.mp hf
  refine ⟨G, ρ, x, E, hx, fun v G1 H1 s1 r1 => ⟨G1, ρ, y, E.step s1, hy, fun w G2 H2 s2 r2 => ?_⟩⟩
  refine hs _ _ G2 H2 x y _ _ s2.gh (r1.step s2) r2 (asB_some hq) fun u G3 H3 s3 r3 => ⟨q, r3.of_bl, ?_⟩
  cases q with
  | true =>
    obtain ⟨z, hz, hf⟩ := Option.bind_eq_some_iff.mp (show ((l ρ).bind fun z => g' y z) = some b from hf)
    rw [if_pos rfl]
    refine ⟨G3, ρ, z, ((E.step s1).step s2).step s3, hz, fun t G4 H4 s4 r4 => ?_⟩
    exact hs' _ _ G4 H4 y z _ _ s4.gh ((r2.step s3).step s4) r4 hf fun u G5 H5 s5 r5 => k u G5 H5 ((((s1.trans s2).trans s3).trans s4).trans s5) r5
  | false =>
    cases hf
    rw [if_neg Bool.false_ne_true]
    exact k _ G3 H3 ((s1.trans s2).trans s3) (.bl _)
theorem d_chain {c : Expr} {l : EF} {op op' : CmpOp} {r r' : R2} {g g' : Dt → Dt → Option Dt} (ho : OpR X (compareOp op) r) (ho' : OpR X (compareOp op') r') (hs : Op2 X.K r g) (hs' : Op2 X.K r' g') (ha : PE X a (canW X.K f)) (hb : PE X b (canW X.K h)) (hc : PE X c (canW X.K l))
    (hm : lastMarks [op, op'] [b, c] = false := by with_unfolding_all rfl) : PE X (.Compare a [op, op'] [b, c] pos) (can X.K (vChn g g' f h l)) :=
  pe_imp (pe_chain ho ho' ha hb hc hm) fun _ _ _ w => chn_can hs hs' w
theorem dt_chain {c : Expr} {l : EF} {op op' : CmpOp} {r r' : R2} {g g' : Dt → Dt → Option Dt} (ho : OpR X (compareOp op) r) (ho' : OpR X (compareOp op') r') (hs : Op2 X.K r g) (hs' : Op2 X.K r' g') (ha : PE X a (canW X.K f)) (hb : PE X b (canW X.K h)) (hc : PE X c (canW X.K l))
    (hm : lastMarks [op, op'] [b, c] = false := by with_unfolding_all rfl) : PT X (.Compare a [op, op'] [b, c] pos) (canT X.K (tB' (vChn g g' f h l))) :=
  pt_imp (pt_chain ho ho' ha hb hc hm) fun σ H Q ⟨G, ρ, b, E, hf, k⟩ =>
    chn_can hs hs' ⟨G, ρ, .bool b, E, asB_some hf, fun v G' H' s r => ⟨b, r.of_bl, k G' H' s⟩⟩
end
end Cc

-- part Cc2
set_option maxHeartbeats 2000000
namespace Cc
open PySem PySem.Spec PyProof.Rows L2
section
variable {X : Cx} {a b c e : Expr} {f h l : EF} {t u : TF} {pos : Pos} {es rest : List Expr}
/-! ### tests -/
theorem dt_val (ha : PE X a (can X.K f)) (he : ∀ whole, isTrue a X.env whole = (do let v ← whole; standAt a.pos; holding [v] (truthy v)) := by intro _; rfl) : PT X a (canT X.K (tB' f)) :=
  pt_imp (pt_val ha he) fun σ H Q ⟨G, ρ, c, E, hf, k⟩ => ⟨G, ρ, .bool c, E, asB_some hf, fun v G' H' s r => ⟨c, r.of_bl, k G' H' s⟩⟩
def tNt (t : TF) : TF := fun ρ => (t ρ).map (! ·)
theorem dt_not (ha : PT X a (canT X.K t)) : PT X (.UnaryOp .Not a pos) (canT X.K (tNt t)) :=
  pt_imp (pt_not ha) fun σ H Q ⟨G, ρ, c, E, hf, k⟩ => by
    unfold tNt at hf
    obtain ⟨d, hd, rfl⟩ := Option.map_eq_some_iff.mp hf
    exact ⟨G, ρ, d, E, hd, k⟩
def tAn (t u : TF) : TF := fun ρ => (t ρ).bind fun k => if k then u ρ else some false
def tOrr (t u : TF) : TF := fun ρ => (t ρ).bind fun k => if k then some true else u ρ
theorem dt_and1 (ha : PT X a (canT X.K t)) : PW X (.BoolOp .And [a] pos) (canT X.K t) := pw_and1 ha
theorem dt_or1 (ha : PT X a (canT X.K t)) : PW X (.BoolOp .Or [a] pos) (canT X.K t) := pw_or1 ha
theorem dt_and (ha : PT X a (canT X.K t)) (hb : PW X (.BoolOp .And (b :: rest) pos) (canT X.K u)) : PW X (.BoolOp .And (a :: b :: rest) pos) (canT X.K (tAn t u)) :=
  pw_imp (pw_and ha hb) fun σ H Q ⟨G, ρ, c, E, hf, k⟩ => by
    unfold tAn at hf
    obtain ⟨d, hd, hf⟩ := Option.bind_eq_some_iff.mp hf
    refine ⟨G, ρ, d, E, hd, fun G1 H1 s1 => ?_⟩
    cases d with
    | true => rw [if_pos rfl]; exact ⟨G1, ρ, c, E.step s1, hf, fun G2 H2 s2 => k G2 H2 (s1.trans s2)⟩
    | false => cases hf; rw [if_neg Bool.false_ne_true]; exact k G1 H1 s1
theorem dt_or (ha : PT X a (canT X.K t)) (hb : PW X (.BoolOp .Or (b :: rest) pos) (canT X.K u)) : PW X (.BoolOp .Or (a :: b :: rest) pos) (canT X.K (tOrr t u)) :=
  pw_imp (pw_or ha hb) fun σ H Q ⟨G, ρ, c, E, hf, k⟩ => by
    unfold tOrr at hf
    obtain ⟨d, hd, hf⟩ := Option.bind_eq_some_iff.mp hf
    refine ⟨G, ρ, d, E, hd, fun G1 H1 s1 => ?_⟩
    cases d with
    | true => cases hf; rw [if_pos rfl]; exact k G1 H1 s1
    | false => rw [if_neg Bool.false_ne_true]; exact ⟨G1, ρ, c, E.step s1, hf, fun G2 H2 s2 => k G2 H2 (s1.trans s2)⟩
/-- as values: all but the last a truth -/
def vAn (f h : EF) : EF := fun ρ => (asB (f ρ)).bind fun k => if k then h ρ else some (.bool false)
def vOr (f h : EF) : EF := fun ρ => (asB (f ρ)).bind fun k => if k then some (.bool true) else h ρ
def vNt (f : EF) : EF := fun ρ => (asB (f ρ)).map fun k => .bool (!k)
theorem dv_one {op} (ha : PE X a (can X.K f)) : PE X (.BoolOp op [a] pos) (can X.K f) := pe_one ha
theorem dv_and (ha : PE X a (can X.K f)) (hb : PE X (.BoolOp .And (b :: rest) pos) (can X.K h)) : PE X (.BoolOp .And (a :: b :: rest) pos) (can X.K (vAn f h)) :=
  pe_imp (pe_and ha hb) fun σ H Q ⟨G, ρ, c, E, hf, k⟩ => by
    unfold vAn at hf
    obtain ⟨d, hd, hf⟩ := Option.bind_eq_some_iff.mp hf
    refine ⟨G, ρ, _, E, asB_some hd, fun v G1 H1 s1 r1 => ⟨d, r1.of_bl, ?_⟩⟩
    cases d with
    | true => rw [if_pos rfl]; exact ⟨G1, ρ, c, E.step s1, hf, fun v G2 H2 s2 r2 => k v G2 H2 (s1.trans s2) r2⟩
    | false => cases hf; rw [if_neg Bool.false_ne_true]; exact k _ G1 H1 s1 (.bl _)
theorem dv_or (ha : PE X a (can X.K f)) (hb : PE X (.BoolOp .Or (b :: rest) pos) (can X.K h)) : PE X (.BoolOp .Or (a :: b :: rest) pos) (can X.K (vOr f h)) :=
  pe_imp (pe_or ha hb) fun σ H Q ⟨G, ρ, c, E, hf, k⟩ => by
    unfold vOr at hf
    obtain ⟨d, hd, hf⟩ := Option.bind_eq_some_iff.mp hf
    refine ⟨G, ρ, _, E, asB_some hd, fun v G1 H1 s1 r1 => ⟨d, r1.of_bl, ?_⟩⟩
    cases d with
    | true => cases hf; rw [if_pos rfl]; exact k _ G1 H1 s1 (.bl _)
    | false => rw [if_neg Bool.false_ne_true]; exact ⟨G1, ρ, c, E.step s1, hf, fun v G2 H2 s2 r2 => k v G2 H2 (s1.trans s2) r2⟩
theorem dv_not (ha : PE X a (can X.K f)) : PE X (.UnaryOp .Not a pos) (can X.K (vNt f)) :=
  pe_imp (pe_not ha) fun σ H Q ⟨G, ρ, c, E, hf, k⟩ => by
    unfold vNt at hf
    obtain ⟨d, hd, rfl⟩ := Option.map_eq_some_iff.mp hf
    exact ⟨G, ρ, _, E, asB_some hd, fun v G1 H1 s1 r1 => ⟨d, r1.of_bl, k _ G1 H1 s1 (.bl _)⟩⟩
def vIf (t : TF) (f h : EF) : EF := fun ρ => (t ρ).bind fun k => if k then f ρ else h ρ
theorem dv_if (hc : PT X c (canT X.K t)) (ha : PE X a (can X.K f)) (hb : PE X b (can X.K h)) : PE X (.IfExp c a b pos) (can X.K (vIf t f h)) :=
  pe_imp (pe_ifExp hc ha hb) fun σ H Q ⟨G, ρ, c, E, hf, k⟩ => by
    unfold vIf at hf
    obtain ⟨d, hd, hf⟩ := Option.bind_eq_some_iff.mp hf
    refine ⟨G, ρ, d, E, hd, fun G1 H1 s1 => ?_⟩
    cases d with
    | true => rw [if_pos rfl]; exact ⟨G1, ρ, c, E.step s1, hf, fun v G2 H2 s2 r2 => k v G2 H2 (s1.trans s2) r2⟩
    | false => rw [if_neg Bool.false_ne_true]; exact ⟨G1, ρ, c, E.step s1, hf, fun v G2 H2 s2 r2 => k v G2 H2 (s1.trans s2) r2⟩

/-! ### argument lists, displays -/
def aNil : AF := fun _ => some []
def aCons (f : EF) (g : AF) : AF := fun ρ => (f ρ).bind fun d => (g ρ).map (d :: ·)
variable {fs : AF}
theorem da_nil : PA X [] (canA X.K aNil) := pa_imp pa_nil fun σ H Q ⟨G, ρ, ds, E, hf, k⟩ => by cases hf; exact k [] G H (.refl E.gh) .nil
theorem da_cons (ha : PE X e (can X.K f)) (hr : PA X es (canA X.K fs)) (hs : starEach (e :: es) X.env = (false, eval e X.env) :: starEach es X.env := by rfl) : PA X (e :: es) (canA X.K (aCons f fs)) :=
  pa_imp (pa_cons ha hr hs) fun σ H Q ⟨G, ρ, ds, E, hf, k⟩ => by
    unfold aCons at hf
    obtain ⟨d, hd, hf⟩ := Option.bind_eq_some_iff.mp hf
    obtain ⟨ds', hds, rfl⟩ := Option.map_eq_some_iff.mp hf
    exact ⟨G, ρ, d, E, hd, fun v G1 H1 s1 r1 => ⟨G1, ρ, ds', E.step s1, hds, fun vs G2 H2 s2 r2 => k _ G2 H2 (s1.trans s2) (.cons (r1.mono s2.g) r2)⟩⟩
theorem daw_nil : PA X [] (canAW X.K aNil) := pa_imp pa_nil fun σ H Q ⟨G, ρ, ds, E, hf, k⟩ => by cases hf; exact k [] G H (.refl E.gh) .nil
theorem daw_cons (ha : PE X e (canW X.K f)) (hr : PA X es (canAW X.K fs)) (hs : starEach (e :: es) X.env = (false, eval e X.env) :: starEach es X.env := by rfl) : PA X (e :: es) (canAW X.K (aCons f fs)) :=
  pa_imp (pa_cons ha hr hs) fun σ H Q ⟨G, ρ, ds, E, hf, k⟩ => by
    unfold aCons at hf
    obtain ⟨d, hd, hf⟩ := Option.bind_eq_some_iff.mp hf
    obtain ⟨ds', hds, rfl⟩ := Option.map_eq_some_iff.mp hf
    exact ⟨G, ρ, d, E, hd, fun v G1 H1 s1 r1 => ⟨G1, ρ, ds', E.step s1, hds, fun vs G2 H2 s2 r2 => k _ G2 H2 (s1.trans s2) (.cons (r1.step s2) r2)⟩⟩
/-- no display or list here is longer -/
abbrev Lim : Nat := 16777216
theorem lim_eq : sizeLine = Lim := sizeLine_eq
def mkTup (fs : AF) : EF := fun ρ => (fs ρ).bind fun ds => if ds.length ≤ Lim then some (.tuple ds) else none
def mkLst (fs : AF) : EF := fun ρ => (fs ρ).bind fun ds => if ds.length ≤ Lim then some (.list ds) else none
theorem lim_if {α : Type} {n : Nat} {x y : α} (h : (if n ≤ Lim then some x else none) = some y) : n ≤ sizeLine ∧ x = y := by
  split at h
  · next q => cases h; exact ⟨by rw [lim_eq]; exact q, rfl⟩
  · cases h
theorem sqt_new {K : PySem.W.Frag} {G : Hp} {p : Addr} {xs : List V} : SqT K (upd G p (.tup xs)) p xs := SqT.of upd_same
theorem d_tup {x1} (ha : PA X es (canA X.K fs)) : PE X (.Tuple es x1 pos) (can X.K (mkTup fs)) :=
  pe_imp (pe_tup ha) fun σ H Q ⟨G, ρ, d, E, hf, k⟩ => by
    unfold mkTup at hf
    obtain ⟨ds, hds, hf⟩ := Option.bind_eq_some_iff.mp hf
    obtain ⟨hl, rfl⟩ := lim_if hf
    refine ⟨G, ρ, ds, E, hds, fun vs G1 H1 s1 r1 => ⟨by rw [paired_len r1]; exact hl, fun p hp => ?_⟩⟩
    have s2 : Step G1 H1 (upd G1 p (.tup vs)) (upd H1 p (.tup vs)) := .new s1.gh hp
    exact k _ _ _ (s1.trans s2) (.mk_tup upd_same (Rps.mono s2.g r1))
theorem d_lst (ha : PA X es (canA X.K fs)) : PE X (.List es pos) (can X.K (mkLst fs)) :=
  pe_imp (pe_lst ha) fun σ H Q ⟨G, ρ, d, E, hf, k⟩ => by
    unfold mkLst at hf
    obtain ⟨ds, hds, hf⟩ := Option.bind_eq_some_iff.mp hf
    obtain ⟨hl, rfl⟩ := lim_if hf
    refine ⟨G, ρ, ds, E, hds, fun vs G1 H1 s1 r1 => ⟨by rw [paired_len r1]; exact hl, fun p hp => ?_⟩⟩
    have s2 : Step G1 H1 (upd G1 p (.lst vs)) (upd H1 p (.lst vs)) := .new s1.gh hp
    exact k _ _ _ (s1.trans s2) (.mk_lst upd_same (Rps.mono s2.g r1))
/-- a new list that stays the body's own -/
def canL (K : PySem.W.Frag) (f : AF) : TE := fun σ H Q => ∃ G ρ ds, EnvOk K G H σ ρ ∧ f ρ = some ds ∧ ∀ p vs G' H', Step G H G' H' → H p = none → G' p = none → H' p = some (.lst vs) → Rps K G' vs ds → Q (.ref p) H'
def lim (fs : AF) : AF := fun ρ => (fs ρ).bind fun ds => if ds.length ≤ Lim then some ds else none
theorem dl_lst (ha : PA X es (canA X.K fs)) : PE X (.List es pos) (canL X.K (lim fs)) :=
  pe_imp (pe_lst ha) fun σ H Q ⟨G, ρ, d, E, hf, k⟩ => by
    unfold lim at hf
    obtain ⟨ds, hds, hf⟩ := Option.bind_eq_some_iff.mp hf
    obtain ⟨hl, rfl⟩ := lim_if hf
    refine ⟨G, ρ, ds, E, hds, fun vs G1 H1 s1 r1 => ⟨by rw [paired_len r1]; exact hl, fun p hp => ?_⟩⟩
    have s2 : Step G1 H1 G1 (upd H1 p (.lst vs)) := .newOwn s1.gh hp
    exact k p vs _ _ (s1.trans s2) (s1.h.back hp) (s1.gh.back hp) upd_same r1

/-! ### calls -/
def spD (K : PySem.W.Frag) (F : List Dt → Option Dt) : Sp := fun vs H Q _ => ∃ G ds d, Ex G H ∧ Rps K G vs ds ∧ F ds = some d ∧ ∀ v G' H', Step G H G' H' → Rp K G' v d → Q v H'
def callF (F : List Dt → Option Dt) (fs : AF) : EF := fun ρ => (fs ρ).bind F
theorem d_call {CX : CXT} {k : Nat} {g : Addr} {fd : FuncData} {ps : List Str} {E : XK} {x : Str} {p : Pos} {F : List Dt → Option Dt} (ok : FnOk X.prog X.w X.K X.mg X.base CX k g fd ps (spD X.K F)) (hr : Room k X.A) (hg : Gl X x) (hm : X.mg x = some (.ref g))
    (hk : PySem.W.keepIn X.K (.ref g) = true) (hb : Binds X.K fd ps []) (hx : Passes CX X E) (ha : PA X (e :: es) (canA X.K fs)) (hdb : (x == ("__debug__" : Str)) = false := by decide) (he : starEach (e :: es) X.env = (false, eval e X.env) :: starEach es X.env := by rfl)
    (hpl : (backTo pos (starEach es X.env)).any (·.1) = false := by rfl) : PE X (.Call (.Name x p) (e :: es) [] pos) (can X.K (callF F fs)) :=
  pe_imp (pe_call ok hr hg hm hk hb .nil hx ha hdb he hpl) fun σ H Q ⟨G, ρ, d, Ev, hf, k⟩ => by
    unfold callF at hf
    obtain ⟨ds, hds, hf⟩ := Option.bind_eq_some_iff.mp hf
    refine ⟨G, ρ, ds, Ev, hds, fun vs G1 H1 s1 r1 => ?_⟩
    show spD X.K F (vs ++ []) H1 Q E
    rw [List.append_nil]
    exact ⟨G1, ds, d, s1.gh, r1, hf, fun v G2 H2 s2 r2 => k v G2 H2 (s1.trans s2) r2⟩
/-- a built-in upon data -/
def Cal (K : PySem.W.Frag) (r : List V → Hp → VK → Prop) (g : List Dt → Option Dt) : Prop := ∀ vs G H ds c Q, Ex G H → Paired (RpW K G H) vs ds → g ds = some c → (∀ v G' H', Step G H G' H' → Rp K G' v c → Q v H') → r vs H Q
theorem d_callB {id : String} {r : List V → Hp → VK → Prop} {g : List Dt → Option Dt} {x : Str} {p : Pos} (hc : CallR X (.builtin id) r) (hs : Cal X.K r g) (hg : Gl X x) (hm : X.mg x = none) (hv : bootBuiltins x = some (.builtin id)) (ha : PA X (e :: es) (canAW X.K fs)) (hn : x ≠ "__name__" := by decide) (hdb : (x == ("__debug__" : Str)) = false := by decide)
    (he : starEach (e :: es) X.env = (false, eval e X.env) :: starEach es X.env := by rfl) (hpl : (backTo pos (starEach es X.env)).any (·.1) = false := by rfl) : PE X (.Call (.Name x p) (e :: es) [] pos) (can X.K (callF g fs)) :=
  pe_imp (pe_callB hc hg hm hv ha hn hdb he hpl) fun σ H Q ⟨G, ρ, d, E, hf, k⟩ => by
    unfold callF at hf
    obtain ⟨ds, hds, hf⟩ := Option.bind_eq_some_iff.mp hf
    exact ⟨G, ρ, ds, E, hds, fun vs G1 H1 s1 r1 => hs vs G1 H1 ds d Q s1.gh r1 hf fun v G2 H2 s2 r2 => k v G2 H2 (s1.trans s2) r2⟩
theorem d_callTy {T : String} {r : List V → Hp → VK → Prop} {g : List Dt → Option Dt} {x : Str} {p : Pos} (hc : CallR X (.type T) r) (hs : Cal X.K r g) (hg : Gl X x) (hm : X.mg x = none) (hv : bootBuiltins x = some (.type T)) (ha : PA X (e :: es) (canAW X.K fs)) (hn : x ≠ "__name__" := by decide) (hdb : (x == ("__debug__" : Str)) = false := by decide)
    (he : starEach (e :: es) X.env = (false, eval e X.env) :: starEach es X.env := by rfl) (hpl : (backTo pos (starEach es X.env)).any (·.1) = false := by rfl) : PE X (.Call (.Name x p) (e :: es) [] pos) (can X.K (callF g fs)) :=
  pe_imp (pe_callTy hc hg hm hv ha hn hdb he hpl) fun σ H Q ⟨G, ρ, d, E, hf, k⟩ => by
    unfold callF at hf
    obtain ⟨ds, hds, hf⟩ := Option.bind_eq_some_iff.mp hf
    exact ⟨G, ρ, ds, E, hds, fun vs G1 H1 s1 r1 => hs vs G1 H1 ds d Q s1.gh r1 hf fun v G2 H2 s2 r2 => k v G2 H2 (s1.trans s2) r2⟩
/-- a built-in's method upon data: the object, the arguments -/
def Mth (K : PySem.W.Frag) (T : String) (r : V → List V → Hp → VK → Prop) (g : Dt → List Dt → Option Dt) : Prop :=
  (∀ x G H d ds c, Ex G H → RpW K G H x d → g d ds = some c → tyV K T x H) ∧ ∀ x vs G H d ds c Q, Ex G H → RpW K G H x d → Paired (RpW K G H) vs ds → g d ds = some c → (∀ v G' H', Step G H G' H' → Rp K G' v c → Q v H') → r x vs H Q
def methF (g : Dt → List Dt → Option Dt) (f : EF) (fs : AF) : EF := fun ρ => (f ρ).bind fun d => (fs ρ).bind fun ds => g d ds
theorem meth_can {T : String} {r : V → List V → Hp → VK → Prop} {g : Dt → List Dt → Option Dt} (hs : Mth X.K T r g) {σ : L2.St} {H : Hp} {Q : VK} (w : can X.K (methF g f fs) σ H Q) : tBM X.K T r (canW X.K f) (canAW X.K fs) σ H Q := by
  obtain ⟨G, ρ, c, E, hf, k⟩ := w
  unfold methF at hf
  obtain ⟨d, hd, hf⟩ := Option.bind_eq_some_iff.mp hf
  obtain ⟨ds, hds, hf⟩ := Option.bind_eq_some_iff.mp hf
  refine ⟨G, ρ, d, E, hd, fun v G1 H1 s1 r1 => ⟨hs.1 v G1 H1 d ds c s1.gh r1 hf, G1, ρ, ds, E.step s1, hds, fun vs G2 H2 s2 r2 => ?_⟩⟩
  exact hs.2 v vs G2 H2 d ds c Q s2.gh (r1.step s2) r2 hf fun u G3 H3 s3 r3 => k u G3 H3 ((s1.trans s2).trans s3) r3
end
end Cc

-- part Cc3
set_option maxHeartbeats 2000000
namespace Cc
open PySem PySem.Spec PyProof.Rows L2
theorem list_catL {α : Type} {xs : List α} : xs.isEmpty = true ↔ xs = [] := List.isEmpty_iff
section
variable {K : PySem.W.Frag}
/-- an operation of two ints -/
theorem op2_int {C : Int → Int → Prop} {g : Int → Int → V} {gd : Dt → Dt → Option Dt} (h : ∀ d e c, gd d e = some c → ∃ i j, d = .int i ∧ e = .int j ∧ C i j ∧ ∀ G, Rp K G (g i j) c) : Op2 K (rI C g) gd := by
  intro x y G H d e c Q e0 rx ry hg k
  obtain ⟨i, j, rfl, rfl, hc, hr⟩ := h d e c hg
  exact ⟨i, j, rx.int, ry.int, hc, k _ G H (.refl e0) (hr G)⟩
theorem op2_int0 {g : Int → Int → V} {gd : Dt → Dt → Option Dt} (h : ∀ d e c, gd d e = some c → ∃ i j, d = .int i ∧ e = .int j ∧ ∀ G, Rp K G (g i j) c) : Op2 K (rI0 g) gd := by
  intro x y G H d e c Q e0 rx ry hg k
  obtain ⟨i, j, rfl, rfl, hr⟩ := h d e c hg
  exact ⟨i, j, rx.int, ry.int, k _ G H (.refl e0) (hr G)⟩
/-! ### + -/
def addD : Dt → Dt → Option Dt
  | .int i, .int j => some (.int (i + j))
  | .str x, .str y => if x.length + y.length ≤ Lim then some (.str (x ++ y)) else none
  | .list xs, .list ys => if xs.length + ys.length ≤ Lim then some (.list (xs ++ ys)) else none
  | .tuple xs, .tuple ys => if xs.length + ys.length ≤ Lim then some (.tuple (xs ++ ys)) else none
  | _, _ => none
abbrev rAddI : R2 := rI0 fun i j => .int (i + j)
abbrev rAddStr : R2 := fun x y H Q => ∃ i j, x = .str i ∧ y = .str j ∧ i.length + j.length ≤ sizeLine ∧ Q (.str (i ++ j)) H
abbrev rAddAll (K : PySem.W.Frag) : R2 := fun x y H Q => rAddI x y H Q ∨ rAddStr x y H Q ∨ rCat x y H Q ∨ rCatA K x y H Q
theorem op_addAll {X : Cx} : OpR X (binaryOp .Add) (rAddAll X.K) := OpR.or op_add (OpR.or op_add_str (OpR.or op_cat op_catA))
theorem op2_add : Op2 K (rAddAll K) addD := by
  intro x y G H d e c Q e0 rx ry hg k
  unfold addD at hg
  split at hg
  · next i j =>
    cases hg
    exact .inl ⟨i, j, rx.int, ry.int, k _ G H (.refl e0) (.int _)⟩
  · next i j =>
    obtain ⟨hl, rfl⟩ := lim_if hg
    exact .inr (.inl ⟨i, j, rx.str, ry.str, hl, k _ G H (.refl e0) (.str _)⟩)
  · next xs ys =>
    obtain ⟨hl, rfl⟩ := lim_if hg
    obtain ⟨a, vs, rfl, ha, ra⟩ := rx.lst e0
    obtain ⟨b, ws, rfl, hb, rb⟩ := ry.lst e0
    refine .inr (.inr (.inl ⟨a, b, vs, ws, rfl, rfl, ha, hb, by rw [paired_len ra, paired_len rb]; exact hl, fun p hp => ?_⟩))
    have s := Step.new (o := .lst (vs ++ ws)) e0 hp
    exact k _ _ _ s (.mk_lst upd_same (Rps.mono s.g (paired_app ra rb)))
  · next xs ys =>
    obtain ⟨hl, rfl⟩ := lim_if hg
    obtain ⟨a, vs, rfl, ha, ra, ha'⟩ := rx.tup e0
    obtain ⟨b, ws, rfl, hb, rb, hb'⟩ := ry.tup e0
    refine .inr (.inr (.inr ⟨a, b, vs, ws, rfl, rfl, ha, hb, by rw [paired_len ra, paired_len rb]; exact hl, fun hx => ?_, fun _ hy => ?_, fun _ _ p hp => ?_⟩))
    · subst hx
      cases ra
      exact k _ G H (.refl e0) (.mk_tup hb' rb)
    · subst hy
      cases rb
      rw [List.append_nil] at k
      exact k _ G H (.refl e0) (.mk_tup ha' ra)
    · have s := Step.new (o := .tup (vs ++ ws)) e0 hp
      exact k _ _ _ s (.mk_tup upd_same (Rps.mono s.g (paired_app ra rb)))
  · cases hg

/-! ### other arithmetic -/
def subD : Dt → Dt → Option Dt
  | .int i, .int j => some (.int (i - j))
  | _, _ => none
theorem op2_sub : Op2 K (rI0 fun i j => .int (i - j)) subD := op2_int0 fun d e c h => by
  unfold subD at h
  split at h
  · next i j => cases h; exact ⟨i, j, rfl, rfl, fun _ => .int _⟩
  · cases h
def mulOk (i j : Int) : Bool := decide (i.natAbs < 2 ^ 64) || decide (j.natAbs < 2 ^ 64) || (decide (i.natAbs < 2 ^ 4000) && decide (j.natAbs < 2 ^ 4000))
def mulD : Dt → Dt → Option Dt
  | .int i, .int j => if mulOk i j then some (.int (i * j)) else none
  | .list xs, .int j => if decide (0 ≤ j ∧ j ≤ 1000) && decide (xs.length ≤ 1000) then some (.list (List.replicate j.toNat xs).flatten) else none
  | .tuple xs, .int j => if decide (2 ≤ j ∧ j ≤ 1000) && decide (xs.length ≤ 1000) && !xs.isEmpty then some (.tuple (List.replicate j.toNat xs).flatten) else none
  | _, _ => none
abbrev rMulI : R2 := fun x y H Q => rI CMul (fun i j => .int (i * j)) x y H Q ∨ rI CMulW (fun i j => .int (i * j)) x y H Q
abbrev rMulAll (K : PySem.W.Frag) : R2 := fun x y H Q => rMulI x y H Q ∨ rRep x y H Q ∨ rRepT K x y H Q
theorem op_mulAll {X : Cx} : OpR X (binaryOp .Mult) (rMulAll X.K) := OpR.or (OpR.or op_mul op_mulW) (OpR.or op_rep op_repT)
theorem op2_mul : Op2 K (rMulAll K) mulD := by
  intro x y G H d e c Q e0 rx ry hg k
  unfold mulD at hg
  split at hg
  · next i j =>
    split at hg
    · next hk =>
      cases hg
      unfold mulOk at hk
      rw [Bool.or_eq_true, Bool.or_eq_true, Bool.and_eq_true, decide_eq_true_eq, decide_eq_true_eq, decide_eq_true_eq, decide_eq_true_eq] at hk
      rcases hk with (hk | hk) | hk
      · exact .inl (.inl ⟨i, j, rx.int, ry.int, .inl (by omega), k _ G H (.refl e0) (.int _)⟩)
      · exact .inl (.inl ⟨i, j, rx.int, ry.int, .inr (by omega), k _ G H (.refl e0) (.int _)⟩)
      · exact .inl (.inr ⟨i, j, rx.int, ry.int, wide_mul hk.1 hk.2 (by decide) (by decide) (by decide), k _ G H (.refl e0) (.int _)⟩)
    · cases hg
  · next xs j =>
    split at hg
    · next hk =>
      cases hg
      rw [Bool.and_eq_true, decide_eq_true_eq, decide_eq_true_eq] at hk
      obtain ⟨a, vs, rfl, ha, ra⟩ := rx.lst e0
      have hl := paired_len ra
      refine .inr (.inl ⟨a, j, vs, rfl, ry.int, ha, by omega, by omega, ?_, fun p hp => ?_⟩)
      · have h1 : vs.length * j.toNat ≤ 1000 * 1000 := Nat.mul_le_mul (by omega) (by omega)
        rw [lim_eq]; exact Nat.le_trans h1 (by decide)
      · have s := Step.new (o := .lst (List.replicate j.toNat vs).flatten) e0 hp
        exact k _ _ _ s (.mk_lst upd_same (Rps.mono s.g (paired_rep ra _)))
    · cases hg
  · next xs j =>
    split at hg
    · next hk =>
      cases hg
      rw [Bool.and_eq_true, Bool.and_eq_true, decide_eq_true_eq, decide_eq_true_eq, Bool.not_eq_true'] at hk
      obtain ⟨a, vs, rfl, ha, ra, ha'⟩ := rx.tup e0
      have hl := paired_len ra
      refine .inr (.inr ⟨a, j, vs, rfl, ry.int, ha, ?_, by omega, by omega, by omega, fun p hp => ?_⟩)
      · rintro rfl
        cases ra
        exact absurd hk.2 (by decide)
      · have s := Step.new (o := .tup (List.replicate j.toNat vs).flatten) e0 hp
        exact k _ _ _ s (.mk_tup upd_same (Rps.mono s.g (paired_rep ra _)))
    · cases hg
  · cases hg
def fdivD : Dt → Dt → Option Dt
  | .int i, .int j => if 0 < j ∧ j < 1073741824 then some (.int (i / j)) else none
  | _, _ => none
theorem op2_fdiv : Op2 K (rI CDiv fun i j => .int (i / j)) fdivD := op2_int fun d e c h => by
  unfold fdivD at h
  split at h
  · next i j =>
    split at h
    · next q => cases h; exact ⟨i, j, rfl, rfl, q, fun _ => .int _⟩
    · cases h
  · cases h
def modD : Dt → Dt → Option Dt
  | .int i, .int j => if 0 < j then some (.int (i % j)) else none
  | _, _ => none
theorem op2_mod : Op2 K (rI (fun _ j => 0 < j) fun i j => .int (i % j)) modD := op2_int fun d e c h => by
  unfold modD at h
  split at h
  · next i j =>
    split at h
    · next q => cases h; exact ⟨i, j, rfl, rfl, q, fun _ => .int _⟩
    · cases h
  · cases h
def powD : Dt → Dt → Option Dt
  | .int i, .int j => if 0 ≤ j ∧ j ≤ 1000 ∧ i.natAbs < 2 ^ 64 then some (.int (i ^ j.toNat)) else none
  | _, _ => none
theorem op2_pow : Op2 K (rI CPow fun i j => .int (i ^ j.toNat)) powD := op2_int fun d e c h => by
  unfold powD at h
  split at h
  · next i j =>
    split at h
    · next q => cases h; exact ⟨i, j, rfl, rfl, ⟨q.1, by omega, q.2.2⟩, fun _ => .int _⟩
    · cases h
  · cases h
def negD : Dt → Option Dt
  | .int i => some (.int (-i))
  | _ => none
theorem op1_neg : Op1 K (rU fun i => .int (-i)) negD := by
  intro x G H d c Q e0 rx hg k
  unfold negD at hg
  split at hg
  · next i => cases hg; exact ⟨i, rx.int, k _ G H (.refl e0) (.int _)⟩
  · cases hg

/-! ### comparisons -/
def eqD (d e : Dt) : Option Dt := if SeqAt.shaped d && SeqAt.shaped e then some (.bool (PyData.eqv d e)) else none
def neD (d e : Dt) : Option Dt := if SeqAt.shaped d && SeqAt.shaped e then some (.bool (!PyData.eqv d e)) else none
theorem op2_eq : Op2 K (rEqD K) eqD := by
  intro x y G H d e c Q e0 rx ry hg k
  unfold eqD at hg
  split at hg
  · next h =>
    cases hg
    rw [Bool.and_eq_true] at h
    exact ⟨d, e, rx.dp e0, ry.dp e0, h.1, h.2, k _ G H (.refl e0) (.bl _)⟩
  · cases hg
theorem op2_ne : Op2 K (rNeD K) neD := by
  intro x y G H d e c Q e0 rx ry hg k
  unfold neD at hg
  split at hg
  · next h =>
    cases hg
    rw [Bool.and_eq_true] at h
    exact ⟨d, e, rx.dp e0, ry.dp e0, h.1, h.2, k _ G H (.refl e0) (.bl _)⟩
  · cases hg
def cmpD (p : Int → Int → Bool) : Dt → Dt → Option Dt
  | .int i, .int j => some (.bool (p i j))
  | _, _ => none
theorem op2_cmp (p : Int → Int → Bool) : Op2 K (rI0 fun i j => .bl (p i j)) (cmpD p) := op2_int0 fun d e c h => by
  unfold cmpD at h
  split at h
  · next i j => cases h; exact ⟨i, j, rfl, rfl, fun _ => .bl _⟩
  · cases h
abbrev ltD := cmpD fun i j => decide (i < j)
abbrev leD := cmpD fun i j => decide (i ≤ j)
abbrev gtD := cmpD fun i j => decide (j < i)
abbrev geD := cmpD fun i j => decide (j ≤ i)
/-- is None -/
def isNo : Dt → Bool
  | .none => true
  | _ => false
def isND (d e : Dt) : Option Dt := match e with
  | .none => some (.bool (isNo d))
  | _ => none
def notND (d e : Dt) : Option Dt := match e with
  | .none => some (.bool (!isNo d))
  | _ => none
theorem non_iff {G H : Hp} {x : V} {d : Dt} (r : RpW K G H x d) : decide (x = .non) = isNo d := by
  rcases r with r | ⟨a, vs, ds, rfl, rfl, h, r⟩
  · cases r <;> rfl
  · rfl
abbrev rIsN : R2 := fun x y H Q => y = .non ∧ Q (.bl (decide (x = .non))) H
abbrev rNotN : R2 := fun x y H Q => y = .non ∧ Q (.bl (!decide (x = .non))) H
theorem op2_isN : Op2 K rIsN isND := by
  intro x y G H d e c Q e0 rx ry hg k
  unfold isND at hg
  split at hg
  · cases hg
    refine ⟨ry.non, ?_⟩
    rw [non_iff rx]
    exact k _ G H (.refl e0) (.bl _)
  · cases hg
theorem op2_notN : Op2 K rNotN notND := by
  intro x y G H d e c Q e0 rx ry hg k
  unfold notND at hg
  split at hg
  · cases hg
    refine ⟨ry.non, ?_⟩
    rw [non_iff rx]
    exact k _ G H (.refl e0) (.bl _)
  · cases hg
/-- is True, is not True, of truths alone -/
def isBD (d e : Dt) : Option Dt := match d, e with
  | .bool a, .bool b => some (.bool (decide (a = b)))
  | _, _ => none
def notBD (d e : Dt) : Option Dt := match d, e with
  | .bool a, .bool b => some (.bool (!decide (a = b)))
  | _, _ => none
theorem op2_isB : Op2 K rIsB isBD := by
  intro x y G H d e c Q e0 rx ry hg k
  unfold isBD at hg
  split at hg
  · next a b => cases hg; exact ⟨a, b, rx.bl, ry.bl, k _ G H (.refl e0) (.bl _)⟩
  · cases hg
theorem op2_notB : Op2 K rNotB notBD := by
  intro x y G H d e c Q e0 rx ry hg k
  unfold notBD at hg
  split at hg
  · next a b => cases hg; exact ⟨a, b, rx.bl, ry.bl, k _ G H (.refl e0) (.bl _)⟩
  · cases hg

/-! ### in -/
def rInU (K : PySem.W.Frag) (neg : Bool) : R2 := fun x y H Q => ∃ d ds, Dp K H x d ∧ (Dp K H y (.list ds) ∨ Dp K H y (.tuple ds)) ∧ SeqAt.shaped d = true ∧ SeqAt.shaped (.list ds) = true ∧ Q (.bl (if neg then !(ds.any fun z => PyData.eqv z d) else ds.any fun z => PyData.eqv z d)) H
theorem op_inU {X : Cx} (hu : X.A.units + 65 < cLine) : OpR X (compareOp .In) (rInU X.K false) := by
  intro pins s σ H x y v u Q I rx ry h
  obtain ⟨d, ds, hd, he, sd, se, q⟩ := h
  obtain ⟨as, r1⟩ := Dp.reads I d x v hd rx
  rcases he with he | he
  · obtain ⟨bs, r2⟩ := Dp.reads I (.list ds) y u he ry
    exact SeqAt.in_list_reads r2 r1 (SeqAt.canLay_of_shaped se) (SeqAt.canLay_of_shaped sd) (room_in_shaped sd hu) ⟨.bl _, H, I, rfl, q⟩
  · obtain ⟨bs, r2⟩ := Dp.reads I (.tuple ds) y u he ry
    exact SeqAt.in_tuple_reads r2 r1 (SeqAt.canLay_of_shaped se) (SeqAt.canLay_of_shaped sd) (room_in_shaped sd hu) ⟨.bl _, H, I, rfl, q⟩
theorem op_notInU {X : Cx} (hu : X.A.units + 65 < cLine) : OpR X (compareOp .NotIn) (rInU X.K true) := by
  intro pins s σ H x y v u Q I rx ry h
  obtain ⟨d, ds, hd, he, sd, se, q⟩ := h
  obtain ⟨as, r1⟩ := Dp.reads I d x v hd rx
  rcases he with he | he
  · obtain ⟨bs, r2⟩ := Dp.reads I (.list ds) y u he ry
    exact SeqAt.notIn_list_reads r2 r1 (SeqAt.canLay_of_shaped se) (SeqAt.canLay_of_shaped sd) (room_in_shaped sd hu) ⟨.bl _, H, I, rfl, q⟩
  · obtain ⟨bs, r2⟩ := Dp.reads I (.tuple ds) y u he ry
    exact SeqAt.notIn_tuple_reads r2 r1 (SeqAt.canLay_of_shaped se) (SeqAt.canLay_of_shaped sd) (room_in_shaped sd hu) ⟨.bl _, H, I, rfl, q⟩
def inD (d e : Dt) : Option Dt := match e with
  | .list ds | .tuple ds => if SeqAt.shaped d && SeqAt.shaped (.list ds) then some (.bool (ds.any fun z => PyData.eqv z d)) else none
  | _ => none
def notInD (d e : Dt) : Option Dt := match e with
  | .list ds | .tuple ds => if SeqAt.shaped d && SeqAt.shaped (.list ds) then some (.bool (!(ds.any fun z => PyData.eqv z d))) else none
  | _ => none
theorem op2_in : Op2 K (rInU K false) inD := by
  intro x y G H d e c Q e0 rx ry hg k
  unfold inD at hg
  split at hg
  · next ds =>
    split at hg
    · next h =>
      cases hg
      rw [Bool.and_eq_true] at h
      exact ⟨d, ds, rx.dp e0, .inl (ry.dp e0), h.1, h.2, k _ G H (.refl e0) (.bl _)⟩
    · cases hg
  · next ds =>
    split at hg
    · next h =>
      cases hg
      rw [Bool.and_eq_true] at h
      exact ⟨d, ds, rx.dp e0, .inr (ry.dp e0), h.1, h.2, k _ G H (.refl e0) (.bl _)⟩
    · cases hg
  · cases hg
theorem op2_notIn : Op2 K (rInU K true) notInD := by
  intro x y G H d e c Q e0 rx ry hg k
  unfold notInD at hg
  split at hg
  · next ds =>
    split at hg
    · next h =>
      cases hg
      rw [Bool.and_eq_true] at h
      exact ⟨d, ds, rx.dp e0, .inl (ry.dp e0), h.1, h.2, k _ G H (.refl e0) (.bl _)⟩
    · cases hg
  · next ds =>
    split at hg
    · next h =>
      cases hg
      rw [Bool.and_eq_true] at h
      exact ⟨d, ds, rx.dp e0, .inr (ry.dp e0), h.1, h.2, k _ G H (.refl e0) (.bl _)⟩
    · cases hg
  · cases hg
end
end Cc

-- part Cc4
set_option maxHeartbeats 2000000
namespace Cc
open PySem PySem.Spec PyProof.Rows L2
section
variable {K : PySem.W.Frag}
/-! ### items -/
theorem atI_paired {α β : Type} {F : α → β → Prop} {xs : List α} {ys : List β} (h : Paired F xs ys) {i : Int} {y : β} (hy : atI ys i = some y) : ∃ x, atI xs i = some x ∧ F x y := by
  unfold atI at hy ⊢
  obtain ⟨j, hj, hy⟩ := Option.bind_eq_some_iff.mp hy
  obtain ⟨x, hx, r⟩ := paired_get h hy
  exact ⟨x, by rw [paired_len h, hj]; exact hx, r⟩
def ixD : Dt → Dt → Option Dt
  | .list ds, .int i => atI ds i
  | .tuple ds, .int i => atI ds i
  | .str z, .int i => if z.length ≤ Lim then (atI z.cps.toList i).map fun c => .str ⟨#[c]⟩ else none
  | _, _ => none
theorem op2_ix : Op2 K (rIx K) ixD := by
  intro x y G H d e c Q e0 rx ry hg k
  unfold ixD at hg
  split at hg
  · next ds i =>
    obtain ⟨a, vs, rfl, ha, ra⟩ := rx.lst e0
    obtain ⟨v, hv, rv⟩ := atI_paired ra hg
    exact .inl ⟨a, vs, i, v, rfl, ry.int, SqL.of ha, hv, k v G H (.refl e0) rv⟩
  · next ds i =>
    obtain ⟨a, vs, rfl, ha, ra, _⟩ := rx.tup e0
    obtain ⟨v, hv, rv⟩ := atI_paired ra hg
    exact .inr (.inl ⟨a, vs, i, v, rfl, ry.int, ha, hv, k v G H (.refl e0) rv⟩)
  · next z i =>
    split at hg
    · next hz =>
      obtain ⟨ch, hc, rfl⟩ := Option.map_eq_some_iff.mp hg
      exact .inr (.inr ⟨z, i, ch, rx.str, ry.int, by rw [lim_eq]; exact hz, hc, k _ G H (.refl e0) (.str _)⟩)
    · cases hg
  · cases hg

/-! ### slices -/
abbrev OF := Dn → Option (Option Int)
def canO (K : PySem.W.Frag) (f : OF) : TO := fun σ H Q => ∃ G ρ o, EnvOk K G H σ ρ ∧ f ρ = some o ∧ ∀ G' H', Step G H G' H' → Q o H'
def oNo : OF := fun _ => some none
def asI : Option Dt → Option Int
  | some (.int i) => some i
  | _ => none
theorem asI_some {o : Option Dt} {i : Int} (h : asI o = some i) : o = some (.int i) := by
  unfold asI at h
  split at h
  · cases h; rfl
  · cases h
def oSo (f : EF) : OF := fun ρ => (asI (f ρ)).map some
variable {X : Cx} {e : Expr} {f : EF}
theorem do_none : PO X none (canO X.K oNo) := by
  have h := po_none (X := X)
  exact ⟨fun pins s σ H Q I ⟨G, ρ, o, E, hf, k⟩ => h.run pins s σ H Q I (by cases hf; exact k G H (.refl E.gh))⟩
theorem do_some (he : PE X e (can X.K f)) : PO X (some e) (canO X.K (oSo f)) := by
  have h := po_some he
  refine ⟨fun pins s σ H Q I ⟨G, ρ, o, E, hf, k⟩ => h.run pins s σ H Q I ?_⟩
  unfold oSo at hf
  obtain ⟨i, hi, rfl⟩ := Option.map_eq_some_iff.mp hf
  exact ⟨G, ρ, .int i, E, asI_some hi, fun v G1 H1 s1 r1 => ⟨i, r1.of_int, k G1 H1 s1⟩⟩
def cutL {α : Type} (xs : List α) (lo hi : Option Int) : List α := (xs.drop (HT.sIx xs.length 0 lo)).take (HT.sIx xs.length xs.length hi - HT.sIx xs.length 0 lo)
def sliceD (d : Dt) (lo hi : Option Int) : Option Dt := match d with
  | .list ds => some (.list (cutL ds lo hi))
  | .tuple ds => some (.tuple (cutL ds lo hi))
  | .str z => if z.length ≤ Lim then some (.str (cutS z lo hi)) else none
  | _ => none
theorem cut_paired {α β : Type} {F : α → β → Prop} {xs : List α} {ys : List β} (h : Paired F xs ys) (lo hi : Option Int) : Paired F (cutL xs lo hi) (cutL ys lo hi) := by
  unfold cutL
  rw [paired_len h]
  exact paired_take _ (paired_drop _ h)
def slcF (f : EF) (l u : OF) : EF := fun ρ => (f ρ).bind fun d => (l ρ).bind fun lo => (u ρ).bind fun hi => sliceD d lo hi
def rSlU (K : PySem.W.Frag) : V → Option Int → Option Int → Hp → VK → Prop := fun x lo hi H Q => rSlL K x lo hi H Q ∨ rSlA K x lo hi H Q ∨ rSlS x lo hi H Q
theorem sl_u : SlR X (rSlU X.K) := SlR.or sl_list (SlR.or sl_tupA sl_str)
theorem d_slice {l u : OF} {lo hi : Option Expr} {p2 pos : Pos} (he : PE X e (canW X.K f)) (hl : PO X lo (canO X.K l)) (hu : PO X hi (canO X.K u)) : PE X (.Subscript e (.Slice lo hi none p2) pos) (can X.K (slcF f l u)) :=
  pe_imp (pe_slice sl_u he hl hu) fun σ H Q ⟨G, ρ, c, E, hf, k⟩ => by
    unfold slcF at hf
    obtain ⟨d, hd, hf⟩ := Option.bind_eq_some_iff.mp hf
    obtain ⟨lo', hlo, hf⟩ := Option.bind_eq_some_iff.mp hf
    obtain ⟨hi', hhi, hf⟩ := Option.bind_eq_some_iff.mp hf
    refine ⟨G, ρ, d, E, hd, fun v G1 H1 s1 r1 => ⟨G1, ρ, lo', E.step s1, hlo, fun G2 H2 s2 => ⟨G2, ρ, hi', (E.step s1).step s2, hhi, fun G3 H3 s3 => ?_⟩⟩⟩
    have r3 := (r1.step s2).step s3
    have s := (s1.trans s2).trans s3
    cases d with
    | list ds =>
      cases hf
      obtain ⟨a, vs, rfl, ha, ra⟩ := r3.lst s3.gh
      refine .inl ⟨a, vs, rfl, SqL.of ha, fun p hp => ?_⟩
      have s4 := Step.new (o := .lst (cutV vs lo' hi')) s3.gh hp
      exact k _ _ _ (s.trans s4) (.mk_lst upd_same (Rps.mono s4.g (cut_paired ra lo' hi')))
    | tuple ds =>
      cases hf
      obtain ⟨a, vs, rfl, ha, ra, ha'⟩ := r3.tup s3.gh
      refine .inr (.inl ⟨a, vs, rfl, ha, fun hw => ?_, fun _ p hp => ?_⟩)
      · have e1 : cutL ds lo' hi' = ds := by
          have hl := paired_len ra
          unfold cutL
          rw [← hl, hw.1, hw.2]
          simp [hl]
        rw [e1] at k
        exact k _ G3 H3 s (.mk_tup ha' ra)
      · have s4 := Step.new (o := .tup (cutV vs lo' hi')) s3.gh hp
        exact k _ _ _ (s.trans s4) (.mk_tup upd_same (Rps.mono s4.g (cut_paired ra lo' hi')))
    | str z =>
      obtain ⟨hz, rfl⟩ := lim_if (show (if z.length ≤ Lim then some (PyData.str (cutS z lo' hi')) else none) = some c from hf)
      exact .inr (.inr ⟨z, r3.str, hz, k _ G3 H3 s (.str _)⟩)
    | _ => cases hf

/-! ### len, all, sum, int, str, tuple, list -/
theorem paired1 {α β : Type} {F : α → β → Prop} {vs : List α} {d : β} (h : Paired F vs [d]) : ∃ v, vs = [v] ∧ F v d := by
  cases h with
  | cons r t => cases t; exact ⟨_, rfl, r⟩
theorem paired2 {α β : Type} {F : α → β → Prop} {vs : List α} {d e : β} (h : Paired F vs [d, e]) : ∃ v w, vs = [v, w] ∧ F v d ∧ F w e := by
  cases h with
  | cons r t =>
    cases t with
    | cons r' t => cases t; exact ⟨_, _, rfl, r, r'⟩
def lenD : List Dt → Option Dt
  | [.list ds] => some (.int ds.length)
  | [.tuple ds] => some (.int ds.length)
  | [.str z] => if z.length ≤ Lim then some (.int z.length) else none
  | _ => none
abbrev rLenU (K : PySem.W.Frag) : List V → Hp → VK → Prop := fun xs H Q => ∃ x n, xs = [x] ∧ LenV K x H n ∧ Q (.int n) H
theorem cal_len : Cal K (rLenU K) lenD := by
  intro vs G H ds c Q e0 r hg k
  unfold lenD at hg
  split at hg
  · next es =>
    cases hg
    obtain ⟨v, rfl, rv⟩ := paired1 r
    obtain ⟨a, ws, rfl, ha, ra⟩ := rv.lst e0
    exact ⟨_, es.length, rfl, .inl ⟨ws, SqL.of ha, (paired_len ra).symm⟩, k _ G H (.refl e0) (.int _)⟩
  · next es =>
    cases hg
    obtain ⟨v, rfl, rv⟩ := paired1 r
    obtain ⟨a, ws, rfl, ha, ra, _⟩ := rv.tup e0
    exact ⟨_, es.length, rfl, .inr ⟨ws, ha, (paired_len ra).symm⟩, k _ G H (.refl e0) (.int _)⟩
  · next z =>
    obtain ⟨hz, rfl⟩ := lim_if hg
    obtain ⟨v, rfl, rv⟩ := paired1 r
    exact ⟨_, z.length, rfl, by rw [rv.str]; exact ⟨hz, rfl⟩, k _ G H (.refl e0) (.int _)⟩
  · cases hg
def boolsD : List Dt → Option (List Bool)
  | [] => some []
  | .bool b :: r => (boolsD r).map (b :: ·)
  | _ => none
theorem boolsD_some : ∀ {ds : List Dt} {bs : List Bool}, boolsD ds = some bs → ds = bs.map .bool
  | [], bs, h => by cases h; rfl
  | d :: r, bs, h => by
    cases d <;> first
      | (simp only [boolsD] at h
         obtain ⟨b', h', rfl⟩ := Option.map_eq_some_iff.mp h
         rw [boolsD_some h']; rfl)
      | (simp [boolsD] at h)
def intsD : List Dt → Option (List Int)
  | [] => some []
  | .int b :: r => (intsD r).map (b :: ·)
  | _ => none
theorem intsD_some : ∀ {ds : List Dt} {bs : List Int}, intsD ds = some bs → ds = bs.map .int
  | [], bs, h => by cases h; rfl
  | d :: r, bs, h => by
    cases d <;> first
      | (simp only [intsD] at h
         obtain ⟨b', h', rfl⟩ := Option.map_eq_some_iff.mp h
         rw [intsD_some h']; rfl)
      | (simp [intsD] at h)
theorem intsD_map : ∀ ns : List Int, intsD (ns.map .int) = some ns
  | [] => rfl
  | n :: ns => by show (intsD (ns.map .int)).map (n :: ·) = _; rw [intsD_map ns]; rfl
theorem boolsD_map : ∀ ns : List Bool, boolsD (ns.map .bool) = some ns
  | [] => rfl
  | n :: ns => by show (boolsD (ns.map .bool)).map (n :: ·) = _; rw [boolsD_map ns]; rfl
theorem rps_ints {G : Hp} : ∀ {vs : List V} {ns : List Int}, Rps K G vs (ns.map .int) → vs = ns.map V.int
  | _, [], h => by cases h; rfl
  | _, n :: ns, h => by
    cases h with
    | cons r t => rw [r.of_int, rps_ints t]; rfl
theorem rps_bools {G : Hp} : ∀ {vs : List V} {ns : List Bool}, Rps K G vs (ns.map .bool) → vs = ns.map V.bl
  | _, [], h => by cases h; rfl
  | _, n :: ns, h => by
    cases h with
    | cons r t => rw [r.of_bl, rps_bools t]; rfl
def allD : List Dt → Option Dt
  | [.list ds] => (boolsD ds).map fun bs => .bool (bs.all id)
  | _ => none
theorem cal_all : Cal K (rAll K) allD := by
  intro vs G H ds c Q e0 r hg k
  unfold allD at hg
  split at hg
  · next es =>
    obtain ⟨bs, hb, rfl⟩ := Option.map_eq_some_iff.mp hg
    obtain ⟨v, rfl, rv⟩ := paired1 r
    have he := boolsD_some hb
    subst he
    obtain ⟨a, ws, rfl, ha, ra⟩ := rv.lst e0
    exact ⟨a, bs, rfl, SqL.of (by rw [← rps_bools ra]; exact ha), k _ G H (.refl e0) (.bl _)⟩
  · cases hg
def sumD : List Dt → Option Dt
  | [.list ds] => (intsD ds).map fun ns => .int ns.sum
  | _ => none
theorem cal_sum : Cal K (rSum K) sumD := by
  intro vs G H ds c Q e0 r hg k
  unfold sumD at hg
  split at hg
  · next es =>
    obtain ⟨bs, hb, rfl⟩ := Option.map_eq_some_iff.mp hg
    obtain ⟨v, rfl, rv⟩ := paired1 r
    have he := intsD_some hb
    subst he
    obtain ⟨a, ws, rfl, ha, ra⟩ := rv.lst e0
    exact ⟨a, bs, rfl, SqL.of (by rw [← rps_ints ra]; exact ha), k _ G H (.refl e0) (.int _)⟩
  · cases hg
/-- int(n), int(truth) -/
def intD : List Dt → Option Dt
  | [.int i] => some (.int i)
  | [.bool b] => some (.int (if b then 1 else 0))
  | _ => none
abbrev rInt1 : List V → Hp → VK → Prop := fun xs H Q => (∃ i, xs = [.int i] ∧ Q (.int i) H) ∨ ∃ k, xs = [.bl k] ∧ Q (.int (if k then 1 else 0)) H
theorem cal_int : Cal K rInt1 intD := by
  intro vs G H ds c Q e0 r hg k
  unfold intD at hg
  split at hg
  · next i =>
    cases hg
    obtain ⟨v, rfl, rv⟩ := paired1 r
    exact .inl ⟨i, by rw [rv.int], k _ G H (.refl e0) (.int _)⟩
  · next b =>
    cases hg
    obtain ⟨v, rfl, rv⟩ := paired1 r
    exact .inr ⟨b, by rw [rv.bl], k _ G H (.refl e0) (.int _)⟩
  · cases hg
def strD : List Dt → Option Dt
  | [.int i] => if i.natAbs < 2 ^ 1920 then some (.str (toString i)) else none
  | _ => none
abbrev rStr1 : List V → Hp → VK → Prop := fun xs H Q => ∃ i, xs = [.int i] ∧ i.natAbs.log2 < 1920 ∧ Q (.str (toString i)) H
theorem cal_str : Cal K rStr1 strD := by
  intro vs G H ds c Q e0 r hg k
  unfold strD at hg
  split at hg
  · next i =>
    split at hg
    · next hi =>
      cases hg
      obtain ⟨v, rfl, rv⟩ := paired1 r
      exact ⟨i, by rw [rv.int], PySem.Flt.log2_lt_of (by decide) hi, k _ G H (.refl e0) (.str _)⟩
    · cases hg
  · cases hg
def tupleD : List Dt → Option Dt
  | [.list ds] => some (.tuple ds)
  | [.tuple ds] => some (.tuple ds)
  | _ => none
abbrev rTupOf (K : PySem.W.Frag) : List V → Hp → VK → Prop := fun xs H Q => ∃ p ys, xs = [.ref p] ∧ ((SqL K H p ys ∧ ∀ l, H l = none → Q (.ref l) (upd H l (.tup ys))) ∨ (SqT K H p ys ∧ Q (.ref p) H))
theorem cal_tuple : Cal K (rTupOf K) tupleD := by
  intro vs G H ds c Q e0 r hg k
  unfold tupleD at hg
  split at hg
  · next es =>
    cases hg
    obtain ⟨v, rfl, rv⟩ := paired1 r
    obtain ⟨a, ws, rfl, ha, ra⟩ := rv.lst e0
    refine ⟨a, ws, rfl, .inl ⟨SqL.of ha, fun p hp => ?_⟩⟩
    have s := Step.new (o := .tup ws) e0 hp
    exact k _ _ _ s (.mk_tup upd_same (Rps.mono s.g ra))
  · next es =>
    cases hg
    obtain ⟨v, rfl, rv⟩ := paired1 r
    obtain ⟨a, ws, rfl, ha, ra, ha'⟩ := rv.tup e0
    exact ⟨a, ws, rfl, .inr ⟨ha, k _ G H (.refl e0) (.mk_tup ha' ra)⟩⟩
  · cases hg
def listD : List Dt → Option Dt
  | [.list ds] => some (.list ds)
  | [.tuple ds] => some (.list ds)
  | _ => none
abbrev rListOf (K : PySem.W.Frag) : List V → Hp → VK → Prop := fun xs H Q => ∃ p ys, xs = [.ref p] ∧ (SqL K H p ys ∨ SqT K H p ys) ∧ ∀ l, H l = none → Q (.ref l) (upd H l (.lst ys))
theorem cal_list : Cal K (rListOf K) listD := by
  intro vs G H ds c Q e0 r hg k
  unfold listD at hg
  split at hg
  · next es =>
    cases hg
    obtain ⟨v, rfl, rv⟩ := paired1 r
    obtain ⟨a, ws, rfl, ha, ra⟩ := rv.lst e0
    refine ⟨a, ws, rfl, .inl (SqL.of ha), fun p hp => ?_⟩
    have s := Step.new (o := .lst ws) e0 hp
    exact k _ _ _ s (.mk_lst upd_same (Rps.mono s.g ra))
  · next es =>
    cases hg
    obtain ⟨v, rfl, rv⟩ := paired1 r
    obtain ⟨a, ws, rfl, ha, ra, ha'⟩ := rv.tup e0
    refine ⟨a, ws, rfl, .inr ha, fun p hp => ?_⟩
    have s := Step.new (o := .lst ws) e0 hp
    exact k _ _ _ s (.mk_lst upd_same (Rps.mono s.g ra))
  · cases hg

/-! ### isinstance of a built-in class -/
def tyName : Dt → String
  | .none => "NoneType"
  | .bool _ => "bool"
  | .int _ => "int"
  | .str _ => "str"
  | .list _ => "list"
  | .tuple _ => "tuple"
  | .dict _ => "dict"
theorem tyX_of {G H : Hp} {v : V} {d : Dt} (e0 : Ex G H) (r : RpW K G H v d) : TyX K H v (.type (tyName d)) := by
  cases d with
  | none => rw [r.non]; exact .base .non
  | bool b => rw [r.bl]; exact .base (.bl b)
  | int i => rw [r.int]; exact .base (.int i)
  | str z => rw [r.str]; exact .base (.str z)
  | list ds =>
    obtain ⟨a, ws, rfl, ha, ra⟩ := r.lst e0
    exact .base (.lst ha)
  | tuple ds =>
    obtain ⟨a, ws, rfl, ha, ra, _⟩ := r.tup e0
    rcases ha with (ha | ⟨o, ha⟩) | ⟨o, its, n, hk, hc, _⟩
    · exact .base (.tup ha)
    · exact .fTuple ha
    · exact .kTuple hk hc
  | dict kvs =>
    rcases r with r | ⟨a, vs, ds, e1, e2, _⟩
    · exact r.no_dict.elim
    · cases e2
/-- the six kinds against one class, by computation -/
def isTab (T : String) (g : Dt → Bool) : Prop := ∀ n ∈ ["NoneType", "bool", "int", "str", "list", "tuple"], True
structure IsT (T : String) (n b i s l t : Bool) : Prop where
  hn : kitB "NoneType" T = some n
  hb : kitB "bool" T = some b
  hi : kitB "int" T = some i
  hs : kitB "str" T = some s
  hl : kitB "list" T = some l
  ht : kitB "tuple" T = some t
def isiD (n b i s l t : Bool) : Dt → Option Dt
  | .none => some (.bool n)
  | .bool _ => some (.bool b)
  | .int _ => some (.bool i)
  | .str _ => some (.bool s)
  | .list _ => some (.bool l)
  | .tuple _ => some (.bool t)
  | .dict _ => none
theorem isT_int : IsT "int" false true true false false false := ⟨by decide +kernel, by decide +kernel, by decide +kernel, by decide +kernel, by decide +kernel, by decide +kernel⟩
theorem isT_bool : IsT "bool" false true false false false false := ⟨by decide +kernel, by decide +kernel, by decide +kernel, by decide +kernel, by decide +kernel, by decide +kernel⟩
theorem isT_str : IsT "str" false false false true false false := ⟨by decide +kernel, by decide +kernel, by decide +kernel, by decide +kernel, by decide +kernel, by decide +kernel⟩
theorem isT_tuple : IsT "tuple" false false false false false true := ⟨by decide +kernel, by decide +kernel, by decide +kernel, by decide +kernel, by decide +kernel, by decide +kernel⟩
theorem isT_list : IsT "list" false false false false true false := ⟨by decide +kernel, by decide +kernel, by decide +kernel, by decide +kernel, by decide +kernel, by decide +kernel⟩
abbrev isInt := isiD false true true false false false
abbrev isBool := isiD false true false false false false
abbrev isStr := isiD false false false true false false
abbrev isTuple := isiD false false false false false true
abbrev isList := isiD false false false false true false
theorem d_isi {T : String} {n b i s l t : Bool} {tn : Str} {p p2 pos : Pos} (ht : IsT T n b i s l t) (hg : Gl X "isinstance") (hm : X.mg "isinstance" = none) (ha : PE X e (canW X.K f)) (hty : PE X (.Name tn p2) (tC (.ty T)))
    (he : starEach [e, .Name tn p2] X.env = (false, eval e X.env) :: starEach [.Name tn p2] X.env := by rfl) (he1 : starEach [.Name tn p2] X.env = [(false, eval (.Name tn p2) X.env)] := by rfl) (hpl : (backTo pos (starEach [.Name tn p2] X.env)).any (·.1) = false := by rfl) :
    PE X (.Call (.Name "isinstance" p) [e, .Name tn p2] [] pos) (can X.K (e1 (isiD n b i s l t) f)) :=
  pe_imp (pe_callB call_isi hg hm (by decide +kernel) (pa_cons ha (pa_cons hty pa_nil he1) he) (by decide) (by decide) he hpl) fun σ H Q ⟨G, ρ, c, E, hf, k⟩ => by
    obtain ⟨d, hd, hf⟩ := Option.bind_eq_some_iff.mp (show (f ρ).bind (isiD n b i s l t) = some c from hf)
    refine ⟨G, ρ, d, E, hd, fun v G1 H1 s1 r1 => ?_⟩
    have ty := tyX_of s1.gh r1
    have go : ∀ (bb : Bool), kitB (tyName d) T = some bb → c = .bool bb → rIsi X.K [v, .ty T] H1 Q := fun bb h1 h2 => by
      subst h2
      exact ⟨v, .ty T, _, .type T, bb, rfl, .ty T, ty, kit_ty h1, k _ G1 H1 s1 (.bl _)⟩
    cases d with
    | none => cases hf; exact go _ ht.hn rfl
    | bool _ => cases hf; exact go _ ht.hb rfl
    | int _ => cases hf; exact go _ ht.hi rfl
    | str _ => cases hf; exact go _ ht.hs rfl
    | list _ => cases hf; exact go _ ht.hl rfl
    | tuple _ => cases hf; exact go _ ht.ht rfl
    | dict _ => cases hf
theorem d_ty {T : String} {tn : Str} {p2 : Pos} (hg : Gl X tn) (hm : X.mg tn = none) (hv : bootBuiltins tn = some (.type T)) (hn : tn ≠ "__name__" := by decide) (hd : (tn == ("__debug__" : Str)) = false := by decide) : PE X (.Name tn p2) (tC (.ty T)) := pe_bltn hg hm hv rfl hn hd
end
end Cc

-- part Cc5
set_option maxHeartbeats 2000000
namespace Cc
open PySem PySem.Spec PyProof.Rows L2
/-! ### statements -/
inductive Res
  | nx (ρ : Dn)
  | rt (d : Dt)
structure SOk (K : PySem.W.Frag) (G0 H0 G H : Hp) (σ : L2.St) (ρ : Dn) : Prop where
  st : Step G0 H0 G H
  env : EnvOk K G H σ ρ
  fr : ∀ (i : Nat) (s : Sl) (a : Addr), ρ[i]? = some s → s.isOwn = true → σ[i]? = some (some (V.ref a)) → H0 a = none
abbrev SF := Dn → Option Res
def Fin (K : PySem.W.Frag) (G0 H0 G1 : Hp) (D : Ends) : Res → Prop
  | .nx ρ => ∀ σ G H, Ex G1 G → SOk K G0 H0 G H σ ρ → D.nx σ H
  | .rt d => ∀ v G H, Step G0 H0 G H → Rp K G v d → D.rt v H
theorem Fin.mono {K : PySem.W.Frag} {G0 H0 G1 G2 : Hp} {D : Ends} {r : Res} (e : Ex G1 G2) (k : Fin K G0 H0 G1 D r) : Fin K G0 H0 G2 D r := by
  cases r with
  | nx ρ => exact fun σ G H a S => k σ G H (e.trans a) S
  | rt d => exact k
def canS (K : PySem.W.Frag) (b : SF) : TS := fun D σ H => ∃ G0 H0 G ρ r, SOk K G0 H0 G H σ ρ ∧ b ρ = some r ∧ Fin K G0 H0 G D r
section
variable {K : PySem.W.Frag} {G0 H0 G H G' H' : Hp} {σ : L2.St} {ρ : Dn}
theorem SOk.step (S : SOk K G0 H0 G H σ ρ) (s : Step G H G' H') : SOk K G0 H0 G' H' σ ρ := ⟨S.st.trans s, S.env.step s, S.fr⟩
theorem SOk.set (S : SOk K G0 H0 G H σ ρ) {i : Nat} {v : V} {d : Dt} (r : Rp K G v d) : SOk K G0 H0 G H (σ.set i (some v)) (ρ.set i (.val d)) :=
  ⟨S.st, S.env.set r, fun j s a h1 h2 h3 => by
    by_cases hj : i = j
    · subst hj; have := get_set_self h1; subst this; cases h2
    · rw [get_set_ne hj] at h1 h3; exact S.fr j s a h1 h2 h3⟩
end
section
variable {X : Cx} {a b c e : Expr} {f h l : EF} {t u : TF} {pos : Pos} {es rest : List Expr} {st : Stmt} {sts : List Stmt} {B B1 B2 : SF}
def sNil : SF := fun ρ => some (.nx ρ)
def sSeq (A B : SF) : SF := fun ρ => match A ρ with
  | some (.nx ρ') => B ρ'
  | r => r
theorem ds_nil : PSs X [] (canS X.K sNil) := pss_imp pss_nil fun D σ H ⟨G0, H0, G, ρ, r, S, hb, k⟩ => by cases hb; exact k σ G H (.refl _) S
theorem ds_cons (h1 : PS X st (canS X.K B1)) (h2 : PSs X sts (canS X.K B2)) : PSs X (st :: sts) (canS X.K (sSeq B1 B2)) :=
  pss_imp (pss_cons h1 h2) fun D σ H ⟨G0, H0, G, ρ, r, S, hb, k⟩ => by
    unfold sSeq at hb
    split at hb
    · next ρ' h => exact ⟨G0, H0, G, ρ, .nx ρ', S, h, fun σ' G' H' e S' => ⟨G0, H0, G', ρ', r, S', hb, k.mono e⟩⟩
    · next r' hn =>
      cases r with
      | nx ρ' => exact (hn ρ' hb).elim
      | rt d => exact ⟨G0, H0, G, ρ, .rt d, S, hb, k⟩
theorem ds_one (h1 : PS X st (canS X.K B1)) : PSs X [st] (canS X.K B1) := pss_one h1
def sIf (t : TF) (A B : SF) : SF := fun ρ => (t ρ).bind fun k => if k then A ρ else B ρ
theorem ds_if {s1 s2 : List Stmt} (hc : PT X c (canT X.K t)) (h1 : PSs X s1 (canS X.K B1)) (h2 : PSs X s2 (canS X.K B2)) : PS X (.If c s1 s2 pos) (canS X.K (sIf t B1 B2)) :=
  ps_imp (ps_if hc h1 h2) fun D σ H ⟨G0, H0, G, ρ, r, S, hb, k⟩ => by
    unfold sIf at hb
    obtain ⟨q, hq, hb⟩ := Option.bind_eq_some_iff.mp hb
    refine ⟨G, ρ, q, S.env, hq, fun G1 H1 s1 => ?_⟩
    cases q with
    | true => rw [if_pos rfl]; exact ⟨G0, H0, G1, ρ, r, S.step s1, hb, k.mono s1.g⟩
    | false => rw [if_neg Bool.false_ne_true]; exact ⟨G0, H0, G1, ρ, r, S.step s1, hb, k.mono s1.g⟩
def sRet (f : EF) : SF := fun ρ => (f ρ).map .rt
theorem ds_ret (he : PE X e (can X.K f)) : PS X (.Return (some e) pos) (canS X.K (sRet f)) :=
  ps_imp (ps_ret he) fun D σ H ⟨G0, H0, G, ρ, r, S, hb, k⟩ => by
    unfold sRet at hb
    obtain ⟨d, hd, rfl⟩ := Option.map_eq_some_iff.mp hb
    exact ⟨G, ρ, d, S.env, hd, fun v G1 H1 s1 r1 => k v G1 H1 (S.st.trans s1) r1⟩
/-- return of the body's own list -/
def sRetO (i : Nat) : SF := fun ρ => match ρ[i]? with
  | some (.own ds) => some (.rt (.list ds))
  | _ => none
theorem freeze {K : PySem.W.Frag} {G0 H0 G H : Hp} {σ : L2.St} {ρ : Dn} {i : Nat} {ds : List Dt} (S : SOk K G0 H0 G H σ ρ) (h : ρ[i]? = some (.own ds)) : ∃ a G', σ[i]? = some (some (V.ref a)) ∧ Step G0 H0 G' H ∧ Rp K G' (.ref a) (.list ds) := by
  obtain ⟨p, o, h1, h2, h3, h4⟩ := S.env.own i _ h rfl
  have hf := S.fr i _ p h rfl h1
  cases o <;> first
    | exact h4.elim
    | skip
  rename_i vs
  have e1 : Ex G (upd G p (.lst vs)) := .new h2
  refine ⟨p, upd G p (.lst vs), h1, ⟨S.st.g.trans e1, S.st.h, fun a u q => ?_, fun a u q n => ?_⟩, .mk_lst upd_same (Rps.mono e1 h4)⟩
  · by_cases ha : a = p
    · subst ha; rw [upd_same] at q; cases q; exact h3
    · rw [upd_ne ha] at q; exact S.st.gh a u q
  · rw [upd_ne (ne_of_none q hf)]; exact S.st.fo a u q n
theorem ds_retO (i : Nat) {x : Str} {p1 : Pos} (hN : X.N[i]? = some x := by rfl) (hv : Vis X.env.scope x := by first | exact Or.inl rfl | exact Or.inr (Or.inl rfl) | exact Or.inr (Or.inr rfl)) (hd : (x == ("__debug__" : Str)) = false := by decide)
    (hcd : (x == ("__classdict__" : Str)) = false := by decide) : PS X (.Return (some (.Name x p1)) pos) (canS X.K (sRetO i)) :=
  ps_imp (ps_ret (pv i hN hv hd hcd)) fun D σ H ⟨G0, H0, G, ρ, r, S, hb, k⟩ => by
    unfold sRetO at hb
    split at hb
    · next ds h =>
      cases hb
      obtain ⟨a, G', h1, h2, h3⟩ := freeze S h
      exact ⟨.ref a, h1, k _ G' H h2 h3⟩
    · cases hb
def sNever : SF := fun _ => none
theorem ds_never : PS X st (canS X.K sNever) := ps_imp ps_never fun D σ H ⟨_, _, _, _, _, _, hb, _⟩ => by cases hb
/-- x = e -/
def sSet (i : Nat) (f : EF) : SF := fun ρ => (f ρ).map fun d => .nx (ρ.set i (.val d))
theorem fin_set {K : PySem.W.Frag} {G0 H0 G H G1 H1 : Hp} {D : Ends} {σ : L2.St} {ρ : Dn} {i : Nat} {v : V} {d : Dt} (S : SOk K G0 H0 G H σ ρ) (k : Fin K G0 H0 G D (.nx (ρ.set i (.val d)))) (s : Step G H G1 H1) (r : Rp K G1 v d) : D.nx (σ.set i (some v)) H1 := k _ G1 H1 s.g ((S.step s).set r)
theorem ds_set {i : Nat} {x : Str} {p1 : Pos} (hN : X.N.Nodup) (hi : X.N[i]? = some x) (hx : Loc X.env.scope x) (he : PE X e (can X.K f)) (hs : swapsWith e (some (.Name x p1)) pos.line X.env = pure false := by rfl)
    (hf : X.fn x = true ∨ X.env.scope.names.lookup x = some .local := by first | exact .inl rfl | exact .inr rfl | assumption) : PS X (.Assign [.Name x p1] e pos) (canS X.K (sSet i f)) :=
  ps_imp (ps_set hN hi hx he hs hf) fun D σ H ⟨G0, H0, G, ρ, r, S, hb, k⟩ => by
    unfold sSet at hb
    obtain ⟨d, hd, rfl⟩ := Option.map_eq_some_iff.mp hb
    exact ⟨G, ρ, d, S.env, hd, fun v G1 H1 s1 r1 => fin_set S k s1 r1⟩
/-- x = [..], which the body will change -/
def sSetO (i : Nat) (f : AF) : SF := fun ρ => (f ρ).map fun ds => .nx (ρ.set i (.own ds))
theorem ds_setO {i : Nat} {x : Str} {p1 : Pos} {f : AF} (hN : X.N.Nodup) (hi : X.N[i]? = some x) (hx : Loc X.env.scope x) (he : PE X e (canL X.K f)) (hs : swapsWith e (some (.Name x p1)) pos.line X.env = pure false := by rfl)
    (hf : X.fn x = true ∨ X.env.scope.names.lookup x = some .local := by first | exact .inl rfl | exact .inr rfl | assumption) : PS X (.Assign [.Name x p1] e pos) (canS X.K (sSetO i f)) :=
  ps_imp (ps_set hN hi hx he hs hf) fun D σ H ⟨G0, H0, G, ρ, r, S, hb, k⟩ => by
    unfold sSetO at hb
    obtain ⟨ds, hd, rfl⟩ := Option.map_eq_some_iff.mp hb
    refine ⟨G, ρ, ds, S.env, hd, fun p vs G1 H1 s1 hp hg hp1 r1 => k _ G1 H1 s1.g ?_⟩
    have S1 := S.step s1
    refine ⟨S1.st, S1.env.setOwn (s := .own ds) (o := .lst vs) rfl hg hp1 r1 fun j s' q hj hs' hq => ?_, fun j s' q hj hs' hq => ?_⟩
    · obtain ⟨q', o, e1, e2, e3, _⟩ := S.env.own j s' hj hs'
      rw [hq] at e1; cases e1
      exact ne_of_none e3 hp
    · by_cases hij : i = j
      · subst hij; have := get_set_self hq; cases this; exact S.st.h.back hp
      · rw [get_set_ne hij] at hj hq; exact S.fr j s' q hj hs' hq
/-- an own object's change -/
theorem SOk.change {K : PySem.W.Frag} {G0 H0 G H : Hp} {σ : L2.St} {ρ : Dn} (S : SOk K G0 H0 G H σ ρ) {i : Nat} {p : Addr} {o o' : HO} {s s' : Sl} (hi : ρ[i]? = some s) (hs : s.isOwn = true) (hs' : s'.isOwn = true) (hσ : σ[i]? = some (some (.ref p))) (hg : G p = none) (hp : H p = some o)
    (r : OwnRep K G o' s') : SOk K G0 H0 G (upd H p o') σ (ρ.set i s') := by
  have hf := S.fr i s p hi hs hσ
  refine ⟨⟨S.st.g, fun a u q => ?_, (S.env.change hi hs hs' hσ hg hp r).gh, S.st.fo⟩, S.env.change hi hs hs' hσ hg hp r, fun j s1 a h1 h2 h3 => ?_⟩
  · rw [upd_ne (ne_of_none q hf)]; exact S.st.h a u q
  · by_cases hij : i = j
    · subst hij; rw [hσ] at h3; cases h3; exact hf
    · rw [get_set_ne hij] at h1; exact S.fr j s1 a h1 h2 h3
/-- x.append(e) -/
def sApp (i : Nat) (f : EF) : SF := fun ρ => match ρ[i]? with
  | some (.own ds) => (f ρ).bind fun d => if ds.length < 100000 then some (.nx (ρ.set i (.own (ds ++ [d])))) else none
  | _ => none
theorem own_lst {K : PySem.W.Frag} {G : Hp} {o : HO} {ds : List Dt} (h : OwnRep K G o (.own ds)) : ∃ vs, o = .lst vs ∧ Rps K G vs ds := by
  cases o <;> first
    | exact h.elim
    | exact ⟨_, rfl, h⟩
theorem own_dK {K : PySem.W.Frag} {G : Hp} {o : HO} {ds : List (Key × Dt)} (h : OwnRep K G o (.ownK ds)) : ∃ kv, o = .dK kv ∧ kv.map (·.1) = ds.map (·.1) ∧ Rps K G (kv.map (·.2)) (ds.map (·.2)) := by
  cases o <;> first
    | exact h.elim
    | exact ⟨_, rfl, h⟩
theorem own_dT {K : PySem.W.Frag} {G : Hp} {o : HO} {ds : List (List Key × Dt)} (h : OwnRep K G o (.ownT ds)) : ∃ kv, o = .dT kv ∧ kv.map (·.1) = ds.map (·.1) ∧ Rps K G (kv.map (·.2)) (ds.map (·.2)) := by
  cases o <;> first
    | exact h.elim
    | exact ⟨_, rfl, h⟩
theorem ds_app (i : Nat) {x : Str} {p1 p2 pos' : Pos} (he : PE X e (can X.K f)) (hN : X.N[i]? = some x := by rfl) (hv : Vis X.env.scope x := by first | exact Or.inl rfl | exact Or.inr (Or.inl rfl) | exact Or.inr (Or.inr rfl)) (hd : (x == ("__debug__" : Str)) = false := by decide)
    (hcd : (x == ("__classdict__" : Str)) = false := by decide) (hst : starEach [e] X.env = [(false, eval e X.env)] := by rfl) (hat : attributeBase (.Name x p1) "append" X.env (eval (.Name x p1) X.env) = eval (.Name x p1) X.env := by rfl) (hln : (p2.endLine == pos'.line) = true := by rfl)
    (hfew : ((backTo pos' (starEach [e] X.env)).all (fun x => !x.1) && (backToKw pos' (keywordEach [] X.env)).all (fun x => x.1.isSome) && decide ([e].length + ([] : List Keyword).length + (if ([] : List Keyword).isEmpty then 0 else 1) < 30)) = true := by rfl)
    (hs : swapsWith (.Call (.Attribute (.Name x p1) "append" p2) [e] [] pos') none pos.line X.env = pure false := by rfl) : PS X (.Expr (.Call (.Attribute (.Name x p1) "append" p2) [e] [] pos') pos) (canS X.K (sApp i f)) :=
  ps_imp (ps_expr (pe_bm PySem.F.plainAttrs_list PySem.F.slot_list_append PySem.F.type_list_append mt_append (pv i hN hv hd hcd) (pa_cons he pa_nil hst) (hbase := hat) (hfew := hfew) (hline := hln) (hs := hst)) hs) fun D σ H ⟨G0, H0, G, ρ, r, S, hb, k⟩ => by
    unfold sApp at hb
    split at hb
    · next ds h =>
      obtain ⟨d, hd', hb⟩ := Option.bind_eq_some_iff.mp hb
      split at hb
      · next hl =>
        cases hb
        obtain ⟨p, o, h1, h2, h3, h4⟩ := S.env.own i _ h rfl
        obtain ⟨vs, rfl, rv⟩ := own_lst h4
        refine ⟨.ref p, h1, .inl ⟨rfl, _, SqL.of h3⟩, ?_⟩
        refine ⟨G, ρ, d, S.env, hd', fun v G1 H1 s1 r1 => ⟨p, vs, v, rfl, rfl, s1.h p _ h3, ?_, ?_⟩⟩
        · rw [paired_len rv, lim_eq]; exact Nat.lt_trans hl (by decide)
        · have S1 := S.step s1
          exact k _ G1 _ s1.g (S1.change h rfl rfl h1 ((s1.fo p _ h3 (fun xs e => nomatch e)).trans h2) (s1.h p _ h3) (show OwnRep X.K G1 (.lst (vs ++ [v])) (.own (ds ++ [d])) from paired_app (Rps.mono s1.g rv) (.cons r1 .nil)))
      · cases hb
    · cases hb
/-- x.extend(e), e a list -/
def asL : Dt → Option (List Dt)
  | .list ds => some ds
  | _ => none
theorem asL_some {d : Dt} {ds : List Dt} (h : asL d = some ds) : d = .list ds := by
  unfold asL at h
  split at h
  · cases h; rfl
  · cases h
def sExt (i : Nat) (f : EF) : SF := fun ρ => match ρ[i]? with
  | some (.own ds) => ((f ρ).bind asL).bind fun es => if ds.length + es.length < 100000 then some (.nx (ρ.set i (.own (ds ++ es)))) else none
  | _ => none
theorem ds_ext (i : Nat) {x : Str} {p1 p2 pos' : Pos} (he : PE X e (can X.K f)) (hN : X.N[i]? = some x := by rfl) (hv : Vis X.env.scope x := by first | exact Or.inl rfl | exact Or.inr (Or.inl rfl) | exact Or.inr (Or.inr rfl)) (hd : (x == ("__debug__" : Str)) = false := by decide)
    (hcd : (x == ("__classdict__" : Str)) = false := by decide) (hst : starEach [e] X.env = [(false, eval e X.env)] := by rfl) (hat : attributeBase (.Name x p1) "extend" X.env (eval (.Name x p1) X.env) = eval (.Name x p1) X.env := by rfl) (hln : (p2.endLine == pos'.line) = true := by rfl)
    (hfew : ((backTo pos' (starEach [e] X.env)).all (fun x => !x.1) && (backToKw pos' (keywordEach [] X.env)).all (fun x => x.1.isSome) && decide ([e].length + ([] : List Keyword).length + (if ([] : List Keyword).isEmpty then 0 else 1) < 30)) = true := by rfl)
    (hs : swapsWith (.Call (.Attribute (.Name x p1) "extend" p2) [e] [] pos') none pos.line X.env = pure false := by rfl) : PS X (.Expr (.Call (.Attribute (.Name x p1) "extend" p2) [e] [] pos') pos) (canS X.K (sExt i f)) :=
  ps_imp (ps_expr (pe_bm PySem.F.plainAttrs_list PySem.F.slot_list_extend PySem.F.type_list_extend mt_extend (pv i hN hv hd hcd) (pa_cons he pa_nil hst) (hbase := hat) (hfew := hfew) (hline := hln) (hs := hst)) hs) fun D σ H ⟨G0, H0, G, ρ, r, S, hb, k⟩ => by
    unfold sExt at hb
    split at hb
    · next ds h =>
      obtain ⟨es, hd', hb⟩ := Option.bind_eq_some_iff.mp hb
      obtain ⟨d, hd', hes⟩ := Option.bind_eq_some_iff.mp hd'
      cases asL_some hes
      split at hb
      · next hl =>
        cases hb
        obtain ⟨p, o, h1, h2, h3, h4⟩ := S.env.own i _ h rfl
        obtain ⟨vs, rfl, rv⟩ := own_lst h4
        refine ⟨.ref p, h1, .inl ⟨rfl, _, SqL.of h3⟩, ?_⟩
        refine ⟨G, ρ, _, S.env, hd', fun v G1 H1 s1 r1 => ?_⟩
        obtain ⟨b, ws, rfl, hb', rb⟩ := r1.of_lst
        refine ⟨p, b, vs, ws, rfl, rfl, s1.h p _ h3, s1.gh _ _ hb', ?_, ?_⟩
        · rw [paired_len rv, paired_len rb, lim_eq]; exact Nat.le_trans (Nat.le_of_lt hl) (by decide)
        · have S1 := S.step s1
          exact k _ G1 _ s1.g (S1.change h rfl rfl h1 ((s1.fo p _ h3 (fun xs e => nomatch e)).trans h2) (s1.h p _ h3) (show OwnRep X.K G1 (.lst (vs ++ ws)) (.own (ds ++ es)) from paired_app (Rps.mono s1.g rv) rb))
      · cases hb
    · cases hb

/-! ### what is walked -/
structure ItD (K : PySem.W.Frag) (J : It) (G : Hp) (xs : List Dt) : Prop where
  go : ∀ (i : Nat) (G' H' : Hp), Ex G G' → Ex G' H' → i < xs.length → J.go i H'
  yld : ∀ (i : Nat) (G' H' H2 : Hp) (v : V), Ex G G' → Ex G' H' → i < xs.length → J.yld i H' v H2 → ∃ d G2, xs[i]? = some d ∧ Step G' H' G2 H2 ∧ Rp K G2 v d
  stop : ∀ (i : Nat) (G' H' : Hp), Ex G G' → Ex G' H' → xs.length ≤ i → J.stop i H'
theorem ItD.mono {K : PySem.W.Frag} {J : It} {G G1 : Hp} {xs : List Dt} (h : ItD K J G xs) (e : Ex G G1) : ItD K J G1 xs :=
  ⟨fun i G' H' a b c => h.go i G' H' (e.trans a) b c, fun i G' H' H2 v a b c d => h.yld i G' H' H2 v (e.trans a) b c d, fun i G' H' a b c => h.stop i G' H' (e.trans a) b c⟩
def canI (K : PySem.W.Frag) (f : AF) : TI := fun σ H R => ∃ G ρ xs, EnvOk K G H σ ρ ∧ f ρ = some xs ∧ ∀ J G' H', Step G H G' H' → ItD K J G' xs → R J H'
theorem sql_inj {K : PySem.W.Frag} {H : Hp} {a : Addr} {xs : List V} (h : H a = some (.lst xs)) : ∀ (ys : List V), H a = some (.lst ys) → xs = ys := fun ys e => by rw [h] at e; cases e; rfl
theorem itl_data {K : PySem.W.Frag} {G : Hp} {a : Addr} {xs : List V} {ds : List Dt} (h : G a = some (.lst xs)) (r : Rps K G xs ds) : ItD K (Itl K a) G ds where
  go := fun i G' H' e e' hi => ⟨xs, xs[i]'(by rw [paired_len r]; exact hi), SqL.of (e' _ _ (e _ _ h)), List.getElem?_eq_getElem _⟩
  yld := fun i G' H' H2 v e e' hi y => by
    obtain ⟨rfl, y⟩ := y
    have hv := y xs (SqL.of (e' _ _ (e _ _ h)))
    obtain ⟨d, hd, rd⟩ := paired_getL r hv
    exact ⟨d, G', hd, .refl e', rd.mono e⟩
  stop := fun i G' H' e e' hi => ⟨xs, SqL.of (e' _ _ (e _ _ h)), by rw [paired_len r]; exact hi⟩
theorem itt_data {K : PySem.W.Frag} {G : Hp} {a : Addr} {xs : List V} {ds : List Dt} (h : SqT K G a xs) (r : Rps K G xs ds) : ItD K (Itt K a) G ds where
  go := fun i G' H' e e' hi => ⟨xs, xs[i]'(by rw [paired_len r]; exact hi), e'.sqt (e.sqt h), List.getElem?_eq_getElem _⟩
  yld := fun i G' H' H2 v e e' hi y => by
    obtain ⟨rfl, y⟩ := y
    have hv := y xs (e'.sqt (e.sqt h))
    obtain ⟨d, hd, rd⟩ := paired_getL r hv
    exact ⟨d, G', hd, .refl e', rd.mono e⟩
  stop := fun i G' H' e e' hi => ⟨xs, e'.sqt (e.sqt h), by rw [paired_len r]; exact hi⟩
theorem itr_data {K : PySem.W.Frag} {G : Hp} (lo : Int) (n : Nat) : ItD K (Itr lo n) G ((List.range n).map fun i => .int (lo + (i : Nat))) where
  go := fun i G' H' e e' hi => by show i < n; simpa using hi
  yld := fun i G' H' H2 v e e' hi y => by
    obtain ⟨rfl, rfl⟩ := y
    have hi' : i < n := by simpa using hi
    exact ⟨.int (lo + i), G', by rw [List.getElem?_map, List.getElem?_range hi']; rfl, .refl e', .int _⟩
  stop := fun i G' H' e e' hi => by show n ≤ i; simpa using hi
def itemsD : Option Dt → Option (List Dt)
  | some (.list ds) => some ds
  | some (.tuple ds) => some ds
  | _ => none
def iSeq (f : EF) : AF := fun ρ => itemsD (f ρ)
theorem di_seq {tg : Expr} (he : PE X e (can X.K f)) : PI X tg e (canI X.K (iSeq f)) := by
  refine ⟨fun pins s σ H R I ⟨G, ρ, xs, E, hf, k⟩ => ?_⟩
  unfold iSeq itemsD at hf
  split at hf
  · next ds h =>
    cases hf
    refine (pi_list he).run pins s σ H R I ⟨G, ρ, _, E, h, fun v G1 H1 s1 r1 => ?_⟩
    obtain ⟨a, vs, rfl, ha, ra⟩ := r1.of_lst
    exact ⟨a, rfl, ⟨vs, SqL.of (s1.gh _ _ ha)⟩, k _ G1 H1 s1 (itl_data ha ra)⟩
  · next ds h =>
    cases hf
    refine (pi_tup he).run pins s σ H R I ⟨G, ρ, _, E, h, fun v G1 H1 s1 r1 => ?_⟩
    obtain ⟨a, vs, rfl, ha, ra⟩ := r1.of_tup
    exact ⟨a, rfl, ⟨vs, s1.gh.sqt (SqT.of ha)⟩, k _ G1 H1 s1 (itt_data (SqT.of ha) ra)⟩
  · cases hf
def rng1D : List Dt → Option (List Dt)
  | [.int n] => if -(2 ^ 62) ≤ n ∧ n < 2 ^ 62 then some ((List.range n.toNat).map fun i => .int (0 + (i : Nat))) else none
  | _ => none
def rng2D : List Dt → Option (List Dt)
  | [.int m, .int n] => if -(2 ^ 62) ≤ m ∧ m < 2 ^ 62 ∧ -(2 ^ 62) ≤ n ∧ n < 2 ^ 62 then some ((List.range (n - m).toNat).map fun i => .int (m + (i : Nat))) else none
  | _ => none
def iF (g : List Dt → Option (List Dt)) (f : AF) : AF := fun ρ => (f ρ).bind g
theorem di_range1 {tg : Expr} {p : Pos} {f : AF} (hg : Gl X "range") (hm : X.mg "range" = none) (ha : PA X [a] (canA X.K f)) (hs : starEach [a] X.env = [(false, eval a X.env)] := by rfl) : PI X tg (.Call (.Name "range" p) [a] [] pos) (canI X.K (iF rng1D f)) := by
  refine ⟨fun pins s σ H R I ⟨G, ρ, xs, E, hf, k⟩ => (pi_range1 hg hm ha hs).run pins s σ H R I ?_⟩
  obtain ⟨ds, hds, hf⟩ := Option.bind_eq_some_iff.mp (show (f ρ).bind rng1D = some xs from hf)
  refine ⟨G, ρ, ds, E, hds, fun vs G1 H1 s1 r1 => ?_⟩
  unfold rng1D at hf
  split at hf
  · next n =>
    split at hf
    · next h =>
      cases hf
      obtain ⟨v, rfl, rv⟩ := paired1 r1
      exact ⟨n, by rw [rv.of_int], h.1, h.2, k _ G1 H1 s1 (itr_data 0 n.toNat)⟩
    · cases hf
  · cases hf
theorem di_range2 {tg : Expr} {p : Pos} {f : AF} (hg : Gl X "range") (hm : X.mg "range" = none) (ha : PA X [a, b] (canA X.K f)) (hs : starEach [a, b] X.env = [(false, eval a X.env), (false, eval b X.env)] := by rfl) (hs2 : starEach [b] X.env = [(false, eval b X.env)] := by rfl) : PI X tg (.Call (.Name "range" p) [a, b] [] pos) (canI X.K (iF rng2D f)) := by
  refine ⟨fun pins s σ H R I ⟨G, ρ, xs, E, hf, k⟩ => (pi_range2 hg hm ha hs hs2).run pins s σ H R I ?_⟩
  obtain ⟨ds, hds, hf⟩ := Option.bind_eq_some_iff.mp (show (f ρ).bind rng2D = some xs from hf)
  refine ⟨G, ρ, ds, E, hds, fun vs G1 H1 s1 r1 => ?_⟩
  unfold rng2D at hf
  split at hf
  · next m n =>
    split at hf
    · next h =>
      cases hf
      obtain ⟨v, w, rfl, rv, rw'⟩ := paired2 r1
      exact ⟨m, n, by rw [rv.of_int, rw'.of_int], h, k _ G1 H1 s1 (itr_data m (n - m).toNat)⟩
    · cases hf
  · cases hf

/-! ### targets -/
abbrev GF := Dt → Dn → Option Dn
theorem wipe_set {σ : L2.St} {i : Nat} {x : Option V} : ∀ vs : List Nat, wipe (σ.set i x) vs = if i ∈ vs then wipe σ vs else (wipe σ vs).set i x
  | [] => rfl
  | v :: vs => by
    show (wipe (σ.set i x) vs).set v none = if i ∈ v :: vs then (wipe σ vs).set v none else ((wipe σ vs).set v none).set i x
    rw [wipe_set vs]
    by_cases h : i ∈ vs
    · rw [if_pos h, if_pos (List.mem_cons_of_mem _ h)]
    · rw [if_neg h]
      by_cases e : i = v
      · subst e; rw [List.set_set, if_pos List.mem_cons_self]
      · rw [List.set_comm _ _ e, if_neg (by simp [e, h])]
/-- what a target leaves: the slots but is, the own objects -/
structure Kept (is : List Nat) (σ σ' : L2.St) (ρ ρ' : Dn) : Prop where
  wp : ∀ vs : List Nat, (∀ i ∈ is, i ∈ vs) → wipe σ' vs = wipe σ vs
  ow : ∀ (i : Nat) (s : Sl), ρ'[i]? = some s → s.isOwn = true → ρ[i]? = some s ∧ σ'[i]? = σ[i]?
theorem Kept.refl {σ : L2.St} {ρ : Dn} : Kept [] σ σ ρ ρ := ⟨fun _ _ => rfl, fun _ _ h _ => ⟨h, rfl⟩⟩
theorem Kept.set {σ : L2.St} {ρ : Dn} {i : Nat} {v : V} {d : Dt} : Kept [i] σ (σ.set i (some v)) ρ (ρ.set i (.val d)) := by
  refine ⟨fun vs h => by rw [wipe_set, if_pos (h i List.mem_cons_self)], fun j s h hs => ?_⟩
  by_cases hj : i = j
  · subst hj; have := get_set_self h; subst this; cases hs
  · rw [get_set_ne hj] at h ⊢; exact ⟨h, rfl⟩
theorem Kept.trans {is js : List Nat} {σ σ1 σ2 : L2.St} {ρ ρ1 ρ2 : Dn} (a : Kept is σ σ1 ρ ρ1) (b : Kept js σ1 σ2 ρ1 ρ2) : Kept (is ++ js) σ σ2 ρ ρ2 :=
  ⟨fun vs h => (b.wp vs fun i hi => h i (List.mem_append_right _ hi)).trans (a.wp vs fun i hi => h i (List.mem_append_left _ hi)), fun i s h hs => by
    obtain ⟨h1, h2⟩ := b.ow i s h hs
    obtain ⟨h3, h4⟩ := a.ow i s h1 hs
    exact ⟨h3, h2.trans h4⟩⟩
theorem SOk.kept {K : PySem.W.Frag} {G0 H0 G H G' H' : Hp} {σ σ' : L2.St} {ρ ρ' : Dn} {is : List Nat} (S : SOk K G0 H0 G H σ ρ) (s : Step G H G' H') (E : EnvOk K G' H' σ' ρ') (k : Kept is σ σ' ρ ρ') : SOk K G0 H0 G' H' σ' ρ' :=
  ⟨S.st.trans s, E, fun i sl a h1 h2 h3 => by
    obtain ⟨h4, h5⟩ := k.ow i sl h1 h2
    exact S.fr i sl a h4 h2 (h5 ▸ h3)⟩
def canG (K : PySem.W.Frag) (is : List Nat) (g : GF) : TG := fun v σ H Q => ∃ G ρ d ρ', EnvOk K G H σ ρ ∧ Rp K G v d ∧ g d ρ = some ρ' ∧ ∀ σ' G' H', EnvOk K G' H' σ' ρ' → Step G H G' H' → Kept is σ σ' ρ ρ' → Q σ' H'
theorem pg_imp {e : Expr} {t t' : TG} (h : PG X e t) (m : ∀ v σ H Q, t' v σ H Q → t v σ H Q) : PG X e t' := ⟨fun pins s σ H v u Q I r q => h.run pins s σ H v u Q I r (m v σ H Q q)⟩
def gSet (i : Nat) : GF := fun d ρ => some (ρ.set i (.val d))
theorem dg_name {i : Nat} {x : Str} (hN : X.N.Nodup) (hi : X.N[i]? = some x) (hx : Loc X.env.scope x) (hf : X.fn x = true ∨ X.env.scope.names.lookup x = some .local := by first | exact .inl rfl | exact .inr rfl | assumption) : PG X (.Name x pos) (canG X.K [i] (gSet i)) :=
  pg_imp (pg_name hN hi hx hf) fun v σ H Q ⟨G, ρ, d, ρ', E, r, hg, k⟩ => by
    cases hg
    exact k _ G H (E.set r) (.refl E.gh) .set
def gSets : List Nat → List Dt → Dn → Option Dn
  | [], [], ρ => some ρ
  | i :: is, d :: ds, ρ => gSets is ds (ρ.set i (.val d))
  | _, _, _ => none
def canGs (K : PySem.W.Frag) (is : List Nat) : TGs := fun vs σ H Q => ∃ G ρ ds ρ', EnvOk K G H σ ρ ∧ Rps K G vs ds ∧ gSets is ds ρ = some ρ' ∧ ∀ σ' G' H', EnvOk K G' H' σ' ρ' → Step G H G' H' → Kept is σ σ' ρ ρ' → Q σ' H'
theorem dgs_nil : PGs X [] (canGs X.K []) := ⟨fun pins s σ H vs us Q I r ⟨G, ρ, ds, ρ', E, rr, hg, k⟩ => by
  cases ds with
  | nil => cases rr; cases hg; exact (pgs_nil (X := X)).run pins s σ H [] us Q I r ⟨rfl, k σ G H E (.refl E.gh) .refl⟩
  | cons _ _ => cases hg⟩
theorem dgs_cons {i : Nat} {is : List Nat} {e : Expr} {es : List Expr} (h1 : PG X e (canG X.K [i] (gSet i))) (h2 : PGs X es (canGs X.K is)) (hs : (assignEach (e :: es) X.env).map (·.2) = assign e X.env :: (assignEach es X.env).map (·.2) := by rfl) : PGs X (e :: es) (canGs X.K (i :: is)) := by
  refine ⟨fun pins s σ H vs us Q I r ⟨G, ρ, ds, ρ', E, rr, hg, k⟩ => (pgs_cons h1 h2 hs).run pins s σ H vs us Q I r ?_⟩
  cases ds with
  | nil => cases hg
  | cons d ds =>
    cases rr with
    | cons r1 r2 => exact ⟨_, _, rfl, G, ρ, d, _, E, r1, rfl, fun σ1 G1 H1 E1 s1 k1 => ⟨G1, _, ds, ρ', E1, Rps.mono s1.g r2, hg, fun σ2 G2 H2 E2 s2 k2 => k σ2 G2 H2 E2 (s1.trans s2) (k1.trans k2)⟩⟩
/-- (a, b, ..) = a tuple -/
def gTupD (is : List Nat) : GF := fun d ρ => match d with
  | .tuple ds => gSets is ds ρ
  | _ => none
theorem gSets_len : ∀ {is : List Nat} {ds : List Dt} {ρ ρ' : Dn}, gSets is ds ρ = some ρ' → ds.length = is.length
  | [], [], _, _, _ => rfl
  | _ :: is, _ :: ds, ρ, ρ', h => by
    have := gSets_len (is := is) (ds := ds) h
    simp [this]
  | [], _ :: _, _, _, h => by cases h
  | _ :: _, [], _, _, h => by cases h
theorem dg_tup {is : List Nat} {kk : Nat} (hc : X.calm = true) (h : PGs X es (canGs X.K is)) (hn : (assignEach es X.env).length = is.length := by rfl) (hst : (assignEach es X.env).findIdx? (·.1) = none := by rfl) : PG X (.Tuple es kk pos) (canG X.K is (gTupD is)) :=
  pg_imp (pg_tup hc h hn hst) fun v σ H Q ⟨G, ρ, d, ρ', E, r, hg, k⟩ => by
    cases d with
    | tuple ds =>
      obtain ⟨a, xs, rfl, ha, ra⟩ := r.of_tup
      exact ⟨a, xs, rfl, E.gh.sqt (SqT.of ha), by rw [paired_len ra]; exact gSets_len hg, G, ρ, ds, ρ', E, ra, hg, k⟩
    | _ => cases hg
/-- a, b = e -/
def sAsg (g : GF) (f : EF) : SF := fun ρ => (f ρ).bind fun d => (g d ρ).map .nx
theorem ds_asg {tg : Expr} {is : List Nat} {g : GF} (he : PE X e (can X.K f)) (hg : PG X tg (canG X.K is g)) (hs : swapsWithSole [tg] e pos.line X.env = pure false := by rfl) (hw : swappedStores [tg] e X.env = pure none := by rfl) (h1 : (assignEach [tg] X.env).map (·.2) = [assign tg X.env] := by rfl) : PS X (.Assign [tg] e pos) (canS X.K (sAsg g f)) :=
  ps_imp (ps_asg he hg hs hw h1) fun D σ H ⟨G0, H0, G, ρ, r, S, hb, k⟩ => by
    unfold sAsg at hb
    obtain ⟨d, hd, hb⟩ := Option.bind_eq_some_iff.mp hb
    obtain ⟨ρ', hρ, rfl⟩ := Option.map_eq_some_iff.mp hb
    exact ⟨G, ρ, d, S.env, hd, fun v G1 H1 s1 r1 => ⟨G1, ρ, d, ρ', S.env.step s1, r1, hρ, fun σ2 G2 H2 E2 s2 k2 => k σ2 G2 H2 (s1.g.trans s2.g) ((S.step s1).kept s2 E2 k2)⟩⟩

/-! ### for, while -/
def forL (g : GF) (B : SF) : List Dt → SF
  | [], ρ => some (.nx ρ)
  | d :: ds, ρ => (g d ρ).bind fun ρ1 => match B ρ1 with
    | some (.nx ρ2) => forL g B ds ρ2
    | r => r
def sFor (it : AF) (g : GF) (B : SF) : SF := fun ρ => (it ρ).bind fun xs => forL g B xs ρ
theorem ds_for {tg iter : Expr} {body : List Stmt} {it : AF} {is : List Nat} {g : GF} (hp : PassesOwn (model X.prog X.w) X.A X.env X.xe) (hc : X.calm = true) (hi : PI X tg iter (canI X.K it)) (hg : PG X tg (canG X.K is g)) (hb : PSs X body (canS X.K B)) (hs : ∀ x, foldedSetIterable iter X.env x = pure x := by intro _; rfl) :
    PS X (.For tg iter body [] pos) (canS X.K (sFor it g B)) :=
  ps_imp (ps_for hp hc hi hg hb hs) fun D σ H ⟨G0, H0, G, ρ, r, S, hb', k⟩ => by
    unfold sFor at hb'
    obtain ⟨xs, hx, hb'⟩ := Option.bind_eq_some_iff.mp hb'
    refine ⟨G, ρ, xs, S.env, hx, fun J G1 H1 s1 hJ => ?_⟩
    refine ⟨fun i m σ' H' => m = xs.length - i ∧ i ≤ xs.length ∧ ∃ G' ρ', Ex G1 G' ∧ SOk X.K G0 H0 G' H' σ' ρ' ∧ forL g B (xs.drop i) ρ' = some r, ⟨xs.length, by simp, Nat.zero_le _, G1, ρ, .refl _, S.step s1, by simpa using hb'⟩, ?_⟩
    rintro i m σ' H' ⟨rfl, hi', G', ρ', e1, S', hr⟩
    by_cases hlt : i < xs.length
    · refine .inr ⟨hJ.go i G' H' e1 S'.env.gh hlt, ?_⟩
      have hd : xs.drop i = xs[i] :: xs.drop (i + 1) := List.drop_eq_getElem_cons hlt
      rw [hd] at hr
      unfold forL at hr
      obtain ⟨ρ1, hρ1, hr⟩ := Option.bind_eq_some_iff.mp hr
      refine ⟨fun σ2 H2 => ∃ G2 ρ2, Ex G1 G2 ∧ SOk X.K G0 H0 G2 H2 σ2 ρ2 ∧ forL g B (xs.drop (i + 1)) ρ2 = some r, fun σ2 H2 ⟨G2, ρ2, a1, a2, a3⟩ => ⟨xs.length - (i + 1), by omega, rfl, hlt, G2, ρ2, a1, a2, a3⟩, fun x H2 hy => ?_⟩
      obtain ⟨d, G2, hd2, s2, r2⟩ := hJ.yld i G' H' H2 x e1 S'.env.gh hlt hy
      rw [List.getElem?_eq_getElem hlt] at hd2
      cases hd2
      refine ⟨G2, ρ', xs[i], ρ1, S'.env.step s2, r2, hρ1, fun σ3 G3 H3 E3 s3 k3 => ?_⟩
      have S3 := (S'.step s2).kept s3 E3 k3
      cases hB : B ρ1 with
      | none => rw [hB] at hr; cases hr
      | some q =>
        cases q with
        | nx ρ2 =>
          rw [hB] at hr
          exact ⟨G0, H0, G3, ρ1, .nx ρ2, S3, hB, fun σ4 G4 H4 e4 S4 => ⟨G4, ρ2, ((e1.trans s2.g).trans s3.g).trans e4, S4, hr⟩⟩
        | rt d =>
          rw [hB] at hr
          cases hr
          exact ⟨G0, H0, G3, ρ1, .rt d, S3, hB, k⟩
    · have e : i = xs.length := by omega
      subst e
      rw [List.drop_length] at hr
      cases hr
      exact .inl ⟨hJ.stop _ G' H' e1 S'.env.gh (Nat.le_refl _), k σ' G' H' (s1.g.trans e1) S'⟩
def whileL (t : TF) (B : SF) : Nat → SF
  | 0, _ => none
  | n + 1, ρ => (t ρ).bind fun k => if k then (match B ρ with
    | some (.nx ρ2) => whileL t B n ρ2
    | r => r) else some (.nx ρ)
theorem ds_while (n : Nat) {body : List Stmt} (hp : PassesOwn (model X.prog X.w) X.A X.env X.xe) (hc : PT X c (canT X.K t)) (hb : PSs X body (canS X.K B)) : PS X (.While c body [] pos) (canS X.K (whileL t B n)) :=
  ps_imp (ps_while hp hc hb) fun D σ H ⟨G0, H0, G, ρ, r, S, hb', k⟩ => by
    refine ⟨fun m σ' H' => ∃ G' ρ', Ex G G' ∧ SOk X.K G0 H0 G' H' σ' ρ' ∧ whileL t B m ρ' = some r, ⟨n, G, ρ, .refl _, S, hb'⟩, ?_⟩
    rintro m σ' H' ⟨G', ρ', e1, S', hr⟩
    cases m with
    | zero => cases hr
    | succ m =>
      unfold whileL at hr
      obtain ⟨q, hq, hr⟩ := Option.bind_eq_some_iff.mp hr
      refine ⟨G', ρ', q, S'.env, hq, fun G1 H1 s1 => ?_⟩
      cases q with
      | false =>
        cases hr
        rw [if_neg Bool.false_ne_true]
        exact k σ' G1 H1 (e1.trans s1.g) (S'.step s1)
      | true =>
        rw [if_pos rfl] at hr ⊢
        refine ⟨fun σ2 H2 => ∃ G2 ρ2, Ex G G2 ∧ SOk X.K G0 H0 G2 H2 σ2 ρ2 ∧ whileL t B m ρ2 = some r, fun σ2 H2 ⟨G2, ρ2, a1, a2, a3⟩ => ⟨m, Nat.lt_succ_self m, G2, ρ2, a1, a2, a3⟩, ?_⟩
        cases hB : B ρ' with
        | none => rw [hB] at hr; cases hr
        | some q =>
          cases q with
          | nx ρ2 =>
            rw [hB] at hr
            exact ⟨G0, H0, G1, ρ', .nx ρ2, S'.step s1, hB, fun σ4 G4 H4 e4 S4 => ⟨G4, ρ2, (e1.trans s1.g).trans e4, S4, hr⟩⟩
          | rt d =>
            rw [hB] at hr
            cases hr
            exact ⟨G0, H0, G1, ρ', .rt d, S'.step s1, hB, k⟩
end
/-! ### a def's promise by its body -/
def startD (N : List Str) (ds : List Dt) : Dn := ds.map .val ++ List.replicate (N.length - ds.length) .unk
def runD (N ps : List Str) (B : SF) (ds : List Dt) : Option Dt := if ds.length = ps.length then (match B (startD N ds) with
  | some (.rt d) => some d
  | some (.nx _) => some .none
  | none => none) else none
theorem sok_start {K : PySem.W.Frag} {G H : Hp} {N : List Str} {vs : List V} {ds : List Dt} (e : Ex G H) (r : Rps K G vs ds) : SOk K G H G H (L2.start N vs) (startD N ds) := by
  have hl := paired_len r
  have hun : ∀ (i : Nat) (s : Sl), (startD N ds)[i]? = some s → (∃ d, s = .val d ∧ ds[i]? = some d) ∨ s = .unk := fun i s h => by
    unfold startD at h
    by_cases hi : i < ds.length
    · rw [List.getElem?_append_left (by simpa using hi), List.getElem?_map] at h
      obtain ⟨d, hd, rfl⟩ := Option.map_eq_some_iff.mp h
      exact .inl ⟨d, rfl, hd⟩
    · rw [List.getElem?_append_right (by simpa using hi), List.getElem?_replicate] at h
      split at h
      · exact .inr (Option.some.inj h).symm
      · cases h
  refine ⟨.refl e, ⟨e, by unfold L2.start startD; simp [hl], fun i d h => ?_, fun i ns h => ?_, fun i s h hs => ?_, fun i j s s' a h1 o1 h2 o2 _ _ => ?_⟩, fun i s a h hs _ => ?_⟩
  · rcases hun i _ h with ⟨d', h1, h2⟩ | h1
    · cases h1
      obtain ⟨v, hv, rv⟩ := paired_get r h2
      refine ⟨v, ?_, rv⟩
      unfold L2.start
      have := lt_of_get hv
      rw [List.getElem?_append_left (by simpa using this), List.getElem?_map, hv]
      rfl
    · cases h1
  · rcases hun i _ h with ⟨d', h1, _⟩ | h1 <;> cases h1
  · rcases hun i _ h with ⟨d', h1, _⟩ | h1 <;> subst h1 <;> cases hs
  · rcases hun i _ h1 with ⟨d', h1, _⟩ | h1 <;> subst h1 <;> cases o1
  · rcases hun i _ h with ⟨d', h1, _⟩ | h1 <;> subst h1 <;> cases hs
section
variable {P : Program} {w : World} {K : PySem.W.Frag} {mg : Str → Option Value} {base : Heap}
theorem fn_data {x qual : Str} {st : Stmt} {f : Addr} {fd : FuncData} {N ps : List Str} {k : Nat} {B : SF} (F : Fun K x qual st f fd) (S : FnScope N ps (defScope st))
    (hbody : ∀ (cdv : Value) (A : Around) (outer : List Env) (s : Shared) (H : Hp) (E : XK), Room k (A.deeper (envOfC qual (defScope st) s.heap.objs.size f cdv)) → PSs (cxOf CX0 P w K mg base N qual (defScope st) f cdv A outer s H E).nox (defBody st) (canS K B)) :
    FnOk P w K mg base CX0 (k + 1) f fd ps (spD K (runD N ps B)) := by
  refine F.ok S (fun vs H Q E h => ?_) (fun cdv A outer s H vs Q E hr h => ⟨_, hbody cdv A outer s H E hr, ?_⟩)
  · obtain ⟨G, ds, d, _, r, hf, _⟩ := h
    unfold runD at hf
    split at hf
    · next h => rw [paired_len r]; exact h
    · cases hf
  · obtain ⟨G, ds, d, e, r, hf, q⟩ := h
    unfold runD at hf
    split at hf
    · next hl =>
      cases hB : B (startD N ds) with
      | none => rw [hB] at hf; cases hf
      | some r' =>
        rw [hB] at hf
        refine ⟨G, H, G, startD N ds, r', sok_start e r, hB, ?_⟩
        cases r' with
        | nx ρ => cases hf; exact fun σ' G' H' _ S' => q .non G' H' S'.st .non
        | rt d' => cases hf; exact fun v G' H' s' r' => q v G' H' s' r'
    · cases hf
/-- a call that is never made -/
theorem fn_none {f : Addr} {fd : FuncData} {ps : List Str} {k : Nat} {CX : CXT} : FnOk P w K mg base CX k f fd ps (spD K fun _ => none) :=
  ⟨fun vs H Q E h => (by obtain ⟨_, _, _, _, _, h, _⟩ := h; cases h), fun A outer s H args us vs Q E _ _ _ _ h => (by obtain ⟨_, _, _, _, _, h, _⟩ := h; cases h)⟩
end
end Cc

-- part Cc6
set_option maxHeartbeats 2000000
namespace Cc
open PySem PySem.Spec PyProof.Rows L2
/-! ### comprehensions -/
def wipeD (ρ : Dn) : List Nat → Dn
  | [] => ρ
  | v :: vs => (wipeD ρ vs).set v .unk
theorem EnvOk.wipe {K : PySem.W.Frag} {G H : Hp} {σ : L2.St} {ρ : Dn} (E : EnvOk K G H σ ρ) : ∀ vs : List Nat, EnvOk K G H (wipe σ vs) (wipeD ρ vs)
  | [] => E
  | v :: vs => (E.wipe vs).wipe1 v
theorem wipe_in {σ : L2.St} {u : Nat} : ∀ {vs : List Nat}, u ∈ vs → (wipe σ vs).set u none = wipe σ vs
  | v :: vs, hu => by
    show ((wipe σ vs).set v none).set u none = (wipe σ vs).set v none
    by_cases e : v = u
    · subst e; rw [List.set_set]
    · rw [List.set_comm _ _ e, wipe_in (by rcases List.mem_cons.mp hu with h | h; exact absurd h.symm e; exact h)]
theorem wipe_sub {σ : L2.St} {vs : List Nat} : ∀ us : List Nat, (∀ v ∈ us, v ∈ vs) → wipe (wipe σ vs) us = wipe σ vs
  | [], _ => rfl
  | u :: us, h => by
    show (wipe (wipe σ vs) us).set u none = wipe σ vs
    rw [wipe_sub us fun v hv => h v (List.mem_cons_of_mem _ hv), wipe_in (h u List.mem_cons_self)]
theorem wipe_wipe {σ : L2.St} {vs : List Nat} : wipe (wipe σ vs) vs = wipe σ vs := wipe_sub vs fun _ h => h
def lcL (g : GF) (t : TF) (e : EF) (ρ : Dn) : List Dt → Option (List Dt)
  | [] => some []
  | x :: xs => (g x ρ).bind fun ρ1 => (t ρ1).bind fun b => if b then (e ρ1).bind fun d => (lcL g t e ρ xs).map (d :: ·) else lcL g t e ρ xs
def lcF (it : AF) (vs : List Nat) (g : GF) (t : TF) (e : EF) : AF := fun ρ => (it ρ).bind fun xs => if xs.length ≤ 100000 then lcL g t e (wipeD ρ vs) xs else none
def lstF (f : AF) : EF := fun ρ => (f ρ).map .list
def tYesD : TF := fun _ => some true
section
variable {X : Cx}
theorem pts_imp {es : List Expr} {t t' : TT} (h : PTs X es t) (m : ∀ σ H Q, t' σ H Q → t σ H Q) : PTs X es t' := ⟨fun pins s σ H Q I q => h.run pins s σ H Q I (m σ H Q q)⟩
theorem dts_nil : PTs X [] (canT X.K tYesD) := pts_imp pts_nil fun σ H Q ⟨G, ρ, b, E, hf, k⟩ => by cases hf; exact k G H (.refl E.gh)
theorem dts_one {c : Expr} {t : TF} (h : PT X c (canT X.K t)) : PTs X [c] (canT X.K t) := pts_one h
theorem lc_can {K : PySem.W.Frag} {it : AF} {vs is : List Nat} {g : GF} {t : TF} {e : EF} (hv : ∀ i ∈ is, i ∈ vs) {σ : L2.St} {H : Hp} {Q : VK} (w : canL K (lcF it vs g t e) σ H Q) : tLc (canI K it) (canG K is g) (canT K t) (can K e) vs σ H Q := by
  obtain ⟨G, ρ, ds, E, hf, k⟩ := w
  unfold lcF at hf
  obtain ⟨xs, hx, hf⟩ := Option.bind_eq_some_iff.mp hf
  split at hf
  · next hlen =>
    refine ⟨G, ρ, xs, E, hx, fun J G1 H1 s1 hJ D hD => ?_⟩
    have hGD : G1 D = none := s1.gh.back hD
    refine ⟨fun i m H' => m = xs.length - i ∧ i ≤ xs.length ∧ ∃ G' ws acc tl, Step G1 H1 G' H' ∧ G' D = none ∧ H' D = some (.lst ws) ∧ Rps K G' ws acc ∧ acc.length ≤ i ∧ lcL g t e (wipeD ρ vs) (xs.drop i) = some tl ∧ acc ++ tl = ds,
      ⟨xs.length, by simp, Nat.zero_le _, G1, [], [], ds, Step.newOwn s1.gh hD, hGD, upd_same, .nil, Nat.le_refl _, by simpa using hf, rfl⟩, ?_⟩
    rintro i m H' ⟨rfl, hi, G', ws, acc, tl, s', hg', hD', rw', hal, htl, happ⟩
    by_cases hlt : i < xs.length
    · refine .inr ⟨hJ.go i G' H' s'.g s'.gh hlt, fun H5 => ∃ G5 ws acc tl, Step G1 H1 G5 H5 ∧ G5 D = none ∧ H5 D = some (.lst ws) ∧ Rps K G5 ws acc ∧ acc.length ≤ i + 1 ∧ lcL g t e (wipeD ρ vs) (xs.drop (i + 1)) = some tl ∧ acc ++ tl = ds,
        fun H5 h5 => ⟨xs.length - (i + 1), by omega, rfl, hlt, h5⟩, fun x H2 hy => ?_⟩
      obtain ⟨d, G2, hd2, s2, r2⟩ := hJ.yld i G' H' H2 x s'.g s'.gh hlt hy
      rw [List.getElem?_eq_getElem hlt] at hd2
      cases hd2
      have hd : xs.drop i = xs[i] :: xs.drop (i + 1) := List.drop_eq_getElem_cons hlt
      rw [hd] at htl
      unfold lcL at htl
      obtain ⟨ρ1, hρ1, htl⟩ := Option.bind_eq_some_iff.mp htl
      obtain ⟨b, hb, htl⟩ := Option.bind_eq_some_iff.mp htl
      have E2 : EnvOk K G2 H2 (wipe σ vs) (wipeD ρ vs) := ((E.step s1).step (s'.trans s2)).wipe vs
      refine ⟨G2, wipeD ρ vs, xs[i], ρ1, E2, r2, hρ1, fun σ3 G3 H3 E3 s3 k3 => ⟨?_, G3, ρ1, b, E3, hb, fun G4 H4 s4 => ?_⟩⟩
      · rw [k3.wp vs hv, wipe_wipe]
      · have s5 : Step G' H' G4 H4 := (s2.trans s3).trans s4
        have hD4 : H4 D = some (.lst ws) := s5.h D _ hD'
        have hG4 : G4 D = none := (s5.fo D _ hD' (fun xs e => nomatch e)).trans hg'
        cases b with
        | false =>
          rw [if_neg Bool.false_ne_true] at htl
          refine iteF ?_
          exact ⟨G4, ws, acc, tl, s'.trans s5, hG4, hD4, Rps.mono s5.g rw', Nat.le_succ_of_le hal, htl, happ⟩
        | true =>
          rw [if_pos rfl] at htl
          refine iteT ?_
          obtain ⟨dd, hdd, htl⟩ := Option.bind_eq_some_iff.mp htl
          obtain ⟨tl', htl', rfl⟩ := Option.map_eq_some_iff.mp htl
          refine ⟨G4, ρ1, dd, E3.step s4, hdd, fun y G6 H6 s6 r6 => ⟨ws, s6.h D _ hD4, ?_, ?_⟩⟩
          · rw [paired_len rw', lim_eq]
            exact Nat.lt_of_le_of_lt (Nat.le_trans (Nat.le_trans hal hi) hlen) (by decide)
          · have s7 : Step G1 H1 G6 H6 := (s'.trans s5).trans s6
            have hG6 : G6 D = none := (s6.fo D _ hD4 (fun xs e => nomatch e)).trans hG4
            refine ⟨G6, ws ++ [y], acc ++ [dd], tl', ⟨s7.g, fun a u q => ?_, fun a u q => ?_, s7.fo⟩, hG6, upd_same, paired_app (Rps.mono (s5.g.trans s6.g) rw') (.cons r6 .nil), ?_, htl', ?_⟩
            · rw [upd_ne (ne_of_none q hD)]; exact s7.h a u q
            · rw [upd_ne (ne_of_none q hG6)]; exact s7.gh a u q
            · rw [List.length_append]; exact Nat.succ_le_succ hal
            · rw [List.append_assoc]; exact happ
    · have e' : i = xs.length := by omega
      subst e'
      rw [List.drop_length] at htl
      cases htl
      rw [List.append_nil] at happ
      subst happ
      exact .inl ⟨hJ.stop _ G' H' s'.g s'.gh (Nat.le_refl _), k D ws G' H' (s1.trans s') (s1.h.back hD) hg' hD' rw'⟩
  · cases hf
/-- a new list, settled -/
theorem canL_of_can {K : PySem.W.Frag} {f : AF} {σ : L2.St} {H : Hp} {Q : VK} (w : can K (lstF f) σ H Q) : canL K f σ H Q := by
  obtain ⟨G, ρ, d, E, hf, k⟩ := w
  obtain ⟨ds, hds, rfl⟩ := Option.map_eq_some_iff.mp (show (f ρ).map PyData.list = some d from hf)
  refine ⟨G, ρ, ds, E, hds, fun p vs G1 H1 s1 hp hg hp1 r1 => ?_⟩
  have e1 : Ex G1 (upd G1 p (.lst vs)) := .new hg
  refine k (.ref p) (upd G1 p (.lst vs)) H1 ⟨s1.g.trans e1, s1.h, fun a u q => ?_, fun a u q n => ?_⟩ (.mk_lst upd_same (Rps.mono e1 r1))
  · by_cases ha : a = p
    · subst ha; rw [upd_same] at q; cases q; exact hp1
    · rw [upd_ne ha] at q; exact s1.gh a u q
  · rw [upd_ne (ne_of_none q hp)]; exact s1.fo a u q n
variable {elt tg iter : Expr} {ifs : List Expr} {scope : Scope} {own : List (Str × Nat)} {pos spos py : Pos} {it : AF} {is : List Nat} {g : GF} {t : TF} {e : EF}
theorem dl_lc (hc : X.calm = true) (hN : X.N.Nodup) (hi : PI X tg iter (canI X.K it)) (ok : BlkOk X.N X.env.scope scope own) (hv : ∀ i ∈ is, i ∈ own.map (·.2))
    (hg : ∀ (s : Shared) (H : Hp) (C : Addr) (cl : List (Str × Addr)) (fp : List Addr), PG (X.blk s H scope (compEnvC scope cl C X.env) fp) tg (canG X.K is g)) (ht : ∀ (s : Shared) (H : Hp) (C : Addr) (cl : List (Str × Addr)) (fp : List Addr), PTs (X.blk s H scope (compEnvC scope cl C X.env) fp) ifs (canT X.K t))
    (he : ∀ (s : Shared) (H : Hp) (C : Addr) (cl : List (Str × Addr)) (fp : List Addr), PE (X.blk s H scope (compEnvC scope cl C X.env) fp) elt (can X.K e)) (hs : ∀ x, foldedSetIterable iter X.env x = pure x := by intro _; rfl) :
    PE X (.ListComp elt [⟨tg, iter, ifs, 0⟩] scope pos) (canL X.K (lcF it (own.map (·.2)) g t e)) :=
  pe_imp (pe_lc hc hN hi ok hg ht he hs) fun σ H Q w => lc_can hv w
theorem d_lc (hc : X.calm = true) (hN : X.N.Nodup) (hi : PI X tg iter (canI X.K it)) (ok : BlkOk X.N X.env.scope scope own) (hv : ∀ i ∈ is, i ∈ own.map (·.2))
    (hg : ∀ (s : Shared) (H : Hp) (C : Addr) (cl : List (Str × Addr)) (fp : List Addr), PG (X.blk s H scope (compEnvC scope cl C X.env) fp) tg (canG X.K is g)) (ht : ∀ (s : Shared) (H : Hp) (C : Addr) (cl : List (Str × Addr)) (fp : List Addr), PTs (X.blk s H scope (compEnvC scope cl C X.env) fp) ifs (canT X.K t))
    (he : ∀ (s : Shared) (H : Hp) (C : Addr) (cl : List (Str × Addr)) (fp : List Addr), PE (X.blk s H scope (compEnvC scope cl C X.env) fp) elt (can X.K e)) (hs : ∀ x, foldedSetIterable iter X.env x = pure x := by intro _; rfl) :
    PE X (.ListComp elt [⟨tg, iter, ifs, 0⟩] scope pos) (can X.K (lstF (lcF it (own.map (·.2)) g t e))) :=
  pe_imp (dl_lc hc hN hi ok hv hg ht he hs) fun σ H Q w => canL_of_can w
/-- x = [..] -/
theorem ds_setLc {i : Nat} {y : Str} (hc : X.calm = true) (hN : X.N.Nodup) (hy : X.N[i]? = some y) (hyl : X.env.scope.names.lookup y = some .local)
    (hsw : swapsWith (.ListComp elt [⟨tg, iter, ifs, 0⟩] scope pos) (some (.Name y py)) spos.line X.env = pure true) (hi : PI X tg iter (canI X.K it)) (ok : BlkOk X.N X.env.scope scope own) (hv : ∀ i ∈ is, i ∈ own.map (·.2))
    (hg : ∀ (s : Shared) (H : Hp) (C : Addr) (cl : List (Str × Addr)) (fp : List Addr), PG (X.blk s H scope (compEnvC scope cl C X.env) fp) tg (canG X.K is g)) (ht : ∀ (s : Shared) (H : Hp) (C : Addr) (cl : List (Str × Addr)) (fp : List Addr), PTs (X.blk s H scope (compEnvC scope cl C X.env) fp) ifs (canT X.K t))
    (he : ∀ (s : Shared) (H : Hp) (C : Addr) (cl : List (Str × Addr)) (fp : List Addr), PE (X.blk s H scope (compEnvC scope cl C X.env) fp) elt (can X.K e)) (hs : ∀ x, foldedSetIterable iter X.env x = pure x := by intro _; rfl) :
    PS X (.Assign [.Name y py] (.ListComp elt [⟨tg, iter, ifs, 0⟩] scope pos) spos) (canS X.K (sSet i (lstF (lcF it (own.map (·.2)) g t e)))) :=
  ps_imp (ps_setLc hc hN hy hyl hsw hi ok hg ht he hs) fun D σ H ⟨G0, H0, G, ρ, r, S, hb, k⟩ => by
    unfold sSet at hb
    obtain ⟨d, hd, rfl⟩ := Option.map_eq_some_iff.mp hb
    exact lc_can hv (canL_of_can ⟨G, ρ, d, S.env, hd, fun v G1 H1 s1 r1 => fin_set S k s1 r1⟩)
end
end Cc

-- part Cc7
set_option maxHeartbeats 2000000
namespace Cc
open PySem PySem.Spec PyProof.Rows L2
theorem hu65 {k : Nat} {A : Around} (hr : Room k A) : A.units + 65 < cLine := by have := hr.un; omega
/-! ### the script -/
def spScr (K : PySem.W.Frag) (F : List Int → List Dt → Option Dt) : Sp := fun vs H Q _ => ∃ G a ns ws ds d, Ex G H ∧ vs = .ref a :: ws ∧ SqL K G a (ns.map V.int) ∧ Rps K G ws ds ∧ F ns ds = some d ∧ ∀ v G' H', Step G H G' H' → Rp K G' v d → Q v H'
def runS (N ps : List Str) (B : SF) (ns : List Int) (ds : List Dt) : Option Dt := if ds.length = ps.length then (match B (.scr ns :: startD N.tail ds) with
  | some (.rt d) => some d
  | some (.nx _) => some .none
  | none => none) else none
theorem sok_startS {K : PySem.W.Frag} {G H : Hp} {N : List Str} {a : Addr} {ns : List Int} {vs : List V} {ds : List Dt} (e : Ex G H) (ha : SqL K G a (ns.map V.int)) (r : Rps K G vs ds) : SOk K G H G H (some (.ref a) :: L2.start N vs) (.scr ns :: startD N ds) := by
  have S := sok_start (N := N) e r
  refine ⟨S.st, ⟨e, by simp [S.env.len], fun i d h => ?_, fun i ms h => ?_, fun i s h hs => ?_, fun i j s s' b h1 o1 h2 o2 g1 g2 => ?_⟩, fun i s b h hs g => ?_⟩
  · cases i with
    | zero => simp at h
    | succ i => exact S.env.val i d (by simpa using h)
  · cases i with
    | zero => simp at h; subst h; exact ⟨a, rfl, ha⟩
    | succ i => exact S.env.scr i ms (by simpa using h)
  · cases i with
    | zero => simp at h; subst h; cases hs
    | succ i => exact S.env.own i s (by simpa using h) hs
  · cases i with
    | zero => simp at h1; subst h1; cases o1
    | succ i =>
      cases j with
      | zero => simp at h2; subst h2; cases o2
      | succ j => rw [S.env.sep i j s s' b (by simpa using h1) o1 (by simpa using h2) o2 (by simpa using g1) (by simpa using g2)]
  · cases i with
    | zero => simp at h; subst h; cases hs
    | succ i => exact S.fr i s b (by simpa using h) hs (by simpa using g)
section
variable {P : Program} {w : World} {K : PySem.W.Frag} {mg : Str → Option Value} {base : Heap}
theorem fn_dataS {x qual x0 : Str} {st : Stmt} {f : Addr} {fd : FuncData} {N0 ps : List Str} {k : Nat} {B : SF} (F : Fun K x qual st f fd) (S : FnScope (x0 :: N0) (x0 :: ps) (defScope st))
    (hbody : ∀ (cdv : Value) (A : Around) (outer : List Env) (s : Shared) (H : Hp) (E : XK), Room k (A.deeper (envOfC qual (defScope st) s.heap.objs.size f cdv)) → PSs (cxOf CX0 P w K mg base (x0 :: N0) qual (defScope st) f cdv A outer s H E).nox (defBody st) (canS K B)) :
    FnOk P w K mg base CX0 (k + 1) f fd (x0 :: ps) (spScr K (runS (x0 :: N0) ps B)) := by
  refine F.ok S (fun vs H Q E h => ?_) (fun cdv A outer s H vs Q E hr h => ⟨_, hbody cdv A outer s H E hr, ?_⟩)
  · obtain ⟨G, a, ns, ws, ds, d, _, rfl, _, r, hf, _⟩ := h
    unfold runS at hf
    split at hf
    · next h => simp [paired_len r, h]
    · cases hf
  · obtain ⟨G, a, ns, ws, ds, d, e, rfl, ha, r, hf, q⟩ := h
    unfold runS at hf
    split at hf
    · next hl =>
      have S0 := sok_startS (N := N0) e ha r
      have e0 : (some (V.ref a) :: L2.start N0 ws) = L2.start (x0 :: N0) (.ref a :: ws) := by
        unfold L2.start; simp
      rw [e0] at S0
      cases hB : B (.scr ns :: startD (x0 :: N0).tail ds) with
      | none => rw [hB] at hf; cases hf
      | some r' =>
        rw [hB] at hf
        refine ⟨G, H, G, _, r', S0, hB, ?_⟩
        cases r' with
        | nx ρ => cases hf; exact fun σ' G' H' _ S' => q .non G' H' S'.st .non
        | rt d' => cases hf; exact fun v G' H' s' r' => q v G' H' s' r'
    · cases hf
end
section
variable {X : Cx} {a b e : Expr} {f h : EF} {fs : AF} {pos : Pos} {es : List Expr}
/-- script[k] -/
def asScr : Option Sl → Option (List Int)
  | some (.scr ns) => some ns
  | _ => none
theorem asScr_some {o : Option Sl} {ns : List Int} (h : asScr o = some ns) : o = some (.scr ns) := by
  unfold asScr at h
  split at h
  · cases h; rfl
  · cases h
def scrAt (i : Nat) (h : EF) : EF := fun ρ => (asScr ρ[i]?).bind fun ns => (asI (h ρ)).bind fun j => (atI ns j).map .int
theorem atI_map {α β : Type} (g : α → β) {xs : List α} {i : Int} {v : α} (h : atI xs i = some v) : atI (xs.map g) i = some (g v) := by
  unfold atI at h ⊢
  obtain ⟨j, hj, h⟩ := Option.bind_eq_some_iff.mp h
  rw [List.length_map, hj]
  show (xs.map g)[j]? = _
  rw [List.getElem?_map, h]; rfl
theorem d_scrAt (i : Nat) {x : Str} {p1 : Pos} (hb : PE X b (canW X.K h)) (hN : X.N[i]? = some x := by rfl) (hv : Vis X.env.scope x := by first | exact Or.inl rfl | exact Or.inr (Or.inl rfl) | exact Or.inr (Or.inr rfl)) (hd : (x == ("__debug__" : Str)) = false := by decide)
    (hcd : (x == ("__classdict__" : Str)) = false := by decide) (hs : PlainIx b := by exact fun _ _ => rfl) : PE X (.Subscript (.Name x p1) b pos) (can X.K (scrAt i h)) :=
  pe_imp (pe_ix ix_list (pv i hN hv hd hcd) hb hs) fun σ H Q ⟨G, ρ, d, E, hf, k⟩ => by
    unfold scrAt at hf
    obtain ⟨ns, hns, hf⟩ := Option.bind_eq_some_iff.mp hf
    obtain ⟨j, hj, hf⟩ := Option.bind_eq_some_iff.mp hf
    obtain ⟨n, hn, rfl⟩ := Option.map_eq_some_iff.mp hf
    obtain ⟨a, h1, h2⟩ := E.scr i ns (asScr_some hns)
    refine ⟨.ref a, h1, G, ρ, .int j, E, asI_some hj, fun v G1 H1 s1 r1 => ?_⟩
    exact ⟨a, ns.map V.int, j, .int n, rfl, r1.int, s1.gh.sql (s1.g.sql h2), atI_map V.int hn, k _ G1 H1 s1 (.int _)⟩
def scrLen (i : Nat) : EF := fun ρ => (asScr ρ[i]?).map fun ns => .int ns.length
theorem d_scrLen (i : Nat) {x : Str} {p p1 : Pos} (hg : Gl X "len") (hm : X.mg "len" = none) (hN : X.N[i]? = some x := by rfl) (hv : Vis X.env.scope x := by first | exact Or.inl rfl | exact Or.inr (Or.inl rfl) | exact Or.inr (Or.inr rfl)) (hd : (x == ("__debug__" : Str)) = false := by decide)
    (hcd : (x == ("__classdict__" : Str)) = false := by decide) (he : starEach [.Name x p1] X.env = [(false, eval (.Name x p1) X.env)] := by rfl) (hpl : (backTo pos (starEach [] X.env)).any (·.1) = false := by rfl) : PE X (.Call (.Name "len" p) [.Name x p1] [] pos) (can X.K (scrLen i)) :=
  pe_imp (pe_callB call_len_seq hg hm PySem.boot_len (pa_cons (pv i hN hv hd hcd) pa_nil he) (by decide) (by decide) he hpl) fun σ H Q ⟨G, ρ, d, E, hf, k⟩ => by
    unfold scrLen at hf
    obtain ⟨ns, hns, rfl⟩ := Option.map_eq_some_iff.mp hf
    obtain ⟨a, h1, h2⟩ := E.scr i ns (asScr_some hns)
    refine ⟨.ref a, h1, a, ns.map V.int, rfl, .inl (E.gh.sql h2), ?_⟩
    rw [List.length_map]
    exact k _ G H (.refl E.gh) (.int _)
def callS (i : Nat) (F : List Int → List Dt → Option Dt) (fs : AF) : EF := fun ρ => (asScr ρ[i]?).bind fun ns => (fs ρ).bind fun ds => F ns ds
theorem d_callS {i : Nat} {CX : CXT} {k : Nat} {g : Addr} {fd : FuncData} {ps : List Str} {E : XK} {x y : Str} {p p1 : Pos} {F : List Int → List Dt → Option Dt} (ok : FnOk X.prog X.w X.K X.mg X.base CX k g fd ps (spScr X.K F)) (hr : Room k X.A) (hg : Gl X x) (hm : X.mg x = some (.ref g))
    (hk : PySem.W.keepIn X.K (.ref g) = true) (hb : Binds X.K fd ps []) (hx : Passes CX X E) (ha : PA X es (canA X.K fs)) (hN : X.N[i]? = some y := by rfl) (hv : Vis X.env.scope y := by first | exact Or.inl rfl | exact Or.inr (Or.inl rfl) | exact Or.inr (Or.inr rfl))
    (hd : (y == ("__debug__" : Str)) = false := by decide) (hcd : (y == ("__classdict__" : Str)) = false := by decide) (hdb : (x == ("__debug__" : Str)) = false := by decide) (he : starEach (.Name y p1 :: es) X.env = (false, eval (.Name y p1) X.env) :: starEach es X.env := by rfl)
    (hpl : (backTo pos (starEach es X.env)).any (·.1) = false := by rfl) : PE X (.Call (.Name x p) (.Name y p1 :: es) [] pos) (can X.K (callS i F fs)) :=
  pe_imp (pe_call ok hr hg hm hk hb .nil hx (pa_cons (pv i hN hv hd hcd) ha he) hdb he hpl) fun σ H Q ⟨G, ρ, d, Ev, hf, k⟩ => by
    unfold callS at hf
    obtain ⟨ns, hns, hf⟩ := Option.bind_eq_some_iff.mp hf
    obtain ⟨ds, hds, hf⟩ := Option.bind_eq_some_iff.mp hf
    obtain ⟨a, h1, h2⟩ := Ev.scr i ns (asScr_some hns)
    refine ⟨.ref a, h1, G, ρ, ds, Ev, hds, fun vs G1 H1 s1 r1 => ?_⟩
    show spScr X.K F (.ref a :: vs ++ []) H1 Q E
    rw [List.append_nil]
    exact ⟨G1, a, ns, vs, ds, d, s1.gh, rfl, s1.g.sql h2, r1, hf, fun v G2 H2 s2 r2 => k v G2 H2 (s1.trans s2) r2⟩

/-! ### constants of the module -/
def GlobC (K : PySem.W.Frag) (mg : Str → Option Value) (x : Str) (d : Dt) : Prop := ∃ v u, mg x = some u ∧ RelV v u ∧ ∀ G, Rp K G v d
theorem dglob {x : Str} {d : Dt} (c : GlobC X.K X.mg x d) (hg : Gl X x := by rfl) (hd : (x == ("__debug__" : Str)) = false := by decide) : PE X (.Name x pos) (can X.K (cst d)) := by
  obtain ⟨v, u, h1, h2, h3⟩ := c
  exact d_tc (pe_glob hg h1 h2 hd) h3
end
end Cc

-- part Cc8
set_option maxHeartbeats 2000000
namespace Cc
open PySem PySem.Spec PyProof.Rows L2
/-! ### more built-ins, by data -/
def strsD : List Dt → Option (List Str)
  | [] => some []
  | .str b :: r => (strsD r).map (b :: ·)
  | _ => none
theorem strsD_some : ∀ {ds : List Dt} {bs : List Str}, strsD ds = some bs → ds = bs.map .str
  | [], bs, h => by cases h; rfl
  | d :: r, bs, h => by
    cases d <;> first
      | (simp only [strsD] at h
         obtain ⟨b', h', rfl⟩ := Option.map_eq_some_iff.mp h
         rw [strsD_some h']; rfl)
      | (simp [strsD] at h)
theorem strsD_map : ∀ ns : List Str, strsD (ns.map .str) = some ns
  | [] => rfl
  | n :: ns => by show (strsD (ns.map .str)).map (n :: ·) = _; rw [strsD_map ns]; rfl
/-- tuples of ints -/
def tupsD : List Dt → Option (List (List Int))
  | [] => some []
  | .tuple ds :: r => (intsD ds).bind fun ns => (tupsD r).map (ns :: ·)
  | _ => none
def tupI (ns : List Int) : Dt := .tuple (ns.map .int)
theorem tupsD_some : ∀ {ds : List Dt} {ts : List (List Int)}, tupsD ds = some ts → ds = ts.map tupI
  | [], bs, h => by cases h; rfl
  | d :: r, bs, h => by
    cases d <;> first
      | (simp only [tupsD] at h
         obtain ⟨ns, hn, h⟩ := Option.bind_eq_some_iff.mp h
         obtain ⟨b', h', rfl⟩ := Option.map_eq_some_iff.mp h
         rw [tupsD_some h', intsD_some hn]; rfl)
      | (simp [tupsD] at h)
theorem tupsD_map : ∀ ts : List (List Int), tupsD (ts.map tupI) = some ts
  | [] => rfl
  | n :: ns => by
    show (intsD (n.map .int)).bind (fun m => (tupsD (ns.map tupI)).map (m :: ·)) = _
    rw [intsD_map, tupsD_map ns]; rfl
def revD : Dt → Option Dt
  | .list ds => some (.list ds.reverse)
  | .tuple ds => some (.tuple ds.reverse)
  | _ => none
/-- without what has come before -/
def dedup : List (List Int) → List (List Int)
  | [] => []
  | x :: xs => if x ∈ xs then dedup xs else x :: dedup xs
def lenSetD : Dt → Option Dt
  | .list ds => (tupsD ds).bind fun ts => if ts.length < 64 then some (.int (dedup ts).length) else none
  | _ => none
def indexD : Dt → List Dt → Option Dt
  | .list ds, [d] => if SeqAt.shaped (.list ds) && SeqAt.shaped d then (ds.findIdx? fun z => PyData.eqv z d).map fun j => .int (j : Nat) else none
  | _, _ => none
def joinD : Dt → Dt → Option Dt
  | .str a, .list ds => (strsD ds).bind fun ys => if (ys.map (·.length)).sum + ys.length * a.length ≤ 16777216 then some (.str (Txt.join a ys)) else none
  | _, _ => none
def splitD : Dt → Dt → Option Dt
  | .str a, .str b => if (b.length == 0) = false ∧ a.length + 2 ≤ Lim then some (.list ((Txt.split a b).map .str)) else none
  | _, _ => none
def zipD : List Dt → Option (List Dt)
  | [a, b] => (itemsD (some a)).bind fun xs => (itemsD (some b)).map fun ys => List.zipWith (fun x y => .tuple [x, y]) xs ys
  | _ => none
def enumL : Nat → List Dt → List Dt
  | _, [] => []
  | i, d :: ds => .tuple [.int (i : Nat), d] :: enumL (i + 1) ds
def enumD : List Dt → Option (List Dt)
  | [.list ds] => some (enumL 0 ds)
  | _ => none
def maxI : List Int → Option Int
  | [] => none
  | x :: xs => some (xs.foldl max x)
def maxD : List Dt → Option Dt
  | [.list ds] => (intsD ds).bind fun ns => (maxI ns).map .int
  | [.tuple ds] => (intsD ds).bind fun ns => (maxI ns).map .int
  | [.int i, .int j] => some (.int (max i j))
  | _ => none
/-- the order of tuples of ints -/
def lexB : List Int → List Int → Bool
  | [], [] => false
  | [], _ :: _ => true
  | _ :: _, [] => false
  | x :: xs, y :: ys => decide (x < y) || (decide (x = y) && lexB xs ys)
def minT : List Int → List (List Int) → List Int
  | m, [] => m
  | m, x :: xs => minT (if lexB x m then x else m) xs
def minD : List Dt → Option Dt
  | [.list ds] => (tupsD ds).bind fun ts => match ts with
    | [] => none
    | t :: ts => if ts.all (fun u => u.length == t.length) && decide (0 < t.length) then some (tupI (minT t ts)) else none
  | _ => none
def insT (t : List Int) : List (List Int) → List (List Int)
  | [] => [t]
  | x :: xs => if lexB x t then x :: insT t xs else t :: x :: xs
def sortT : List (List Int) → List (List Int)
  | [] => []
  | t :: ts => insT t (sortT ts)
def sOk (ts : List (List Int)) : Bool := ts.all (fun t => t.length == 2) || (match ts with | [] :: _ => true | _ => false)
def sortedD : List Dt → Option Dt
  | [.list ds] => (tupsD ds).bind fun ts => if sOk ts && decide (ts.length ≤ Lim) then some (.list ((sortT ts).map tupI)) else none
  | _ => none
/-! ### the rules -/
section
variable {X : Cx} {a b e : Expr} {f h : EF} {fs : AF} {pos : Pos} {es : List Expr}
theorem findIdx_first {p : Dt → Bool} : ∀ {ds : List Dt} {j : Nat}, ds.findIdx? p = some j → ∃ z, ds[j]? = some z ∧ p z = true ∧ ∀ (m : Nat) (z' : Dt), m < j → ds[m]? = some z' → p z' = false := by
  intro ds j h
  obtain ⟨hj, h1, h2⟩ := List.findIdx?_eq_some_iff_getElem.mp h
  refine ⟨ds[j], List.getElem?_eq_getElem hj, h1, fun m z' hm hz => ?_⟩
  obtain ⟨hm', rfl⟩ := List.getElem?_eq_some_iff.mp hz
  simpa using h2 m hm
theorem d_index {x : Expr} {p2 pos' : Pos} (hu : X.A.units + 65 < cLine) (ha : PE X a (canW X.K f)) (hb : PA X [x] (canAW X.K fs)) (hat : attributeBase a "index" X.env (eval a X.env) = eval a X.env := by rfl) (hln : (p2.endLine == pos'.line) = true := by rfl)
    (hfew : ((backTo pos' (starEach [x] X.env)).all (fun x => !x.1) && (backToKw pos' (keywordEach [] X.env)).all (fun x => x.1.isSome) && decide ([x].length + ([] : List Keyword).length + (if ([] : List Keyword).isEmpty then 0 else 1) < 30)) = true := by rfl)
    (hst : starEach [x] X.env = [(false, eval x X.env)] := by rfl) : PE X (.Call (.Attribute a "index" p2) [x] [] pos') (can X.K (methF indexD f fs)) :=
  pe_imp (pe_bm PySem.F.plainAttrs_list PySem.F.slot_list_index PySem.F.type_list_index (mt_indexD hu) ha hb (hbase := hat) (hfew := hfew) (hline := hln) (hs := hst)) fun σ H Q w => by
    refine meth_can (T := "list") (g := indexD) ⟨fun x G H d ds c e0 r hg => ?_, fun x vs G H d ds c Q e0 r rs hg k => ?_⟩ w
    · unfold indexD at hg
      split at hg
      · obtain ⟨a, ws, rfl, ha, ra⟩ := r.lst e0
        exact .inl ⟨rfl, _, SqL.of ha⟩
      · cases hg
    · unfold indexD at hg
      split at hg
      · next ds d =>
        split at hg
        · next hs =>
          rw [Bool.and_eq_true] at hs
          obtain ⟨j, hj, rfl⟩ := Option.map_eq_some_iff.mp hg
          obtain ⟨z, hz, h1, h2⟩ := findIdx_first hj
          obtain ⟨v, rfl, rv⟩ := paired1 rs
          have dp := r.dp e0
          obtain ⟨a, ws, rfl, ha, ra⟩ := r.lst e0
          exact ⟨a, v, d, ds, j, z, rfl, rfl, dp, rv.dp e0, hs.1, hs.2, hz, h1, h2, k _ G H (.refl e0) (.int _)⟩
        · cases hg
      · cases hg
theorem joinD_some {d e c : Dt} (h : joinD d e = some c) : ∃ z ys, d = .str z ∧ e = .list (ys.map .str) ∧ (ys.map (·.length)).sum + ys.length * z.length ≤ 16777216 ∧ c = .str (Txt.join z ys) := by
  unfold joinD at h
  split at h
  · next z ds =>
    obtain ⟨ys, hys, h⟩ := Option.bind_eq_some_iff.mp h
    split at h
    · next hl => cases h; exact ⟨z, ys, rfl, by rw [strsD_some hys], hl, rfl⟩
    · cases h
  · cases h
theorem rps_strs {K : PySem.W.Frag} {G : Hp} : ∀ {vs : List V} {ns : List Str}, Rps K G vs (ns.map .str) → vs = ns.map V.str
  | _, [], h => by cases h; rfl
  | _, n :: ns, h => by
    cases h with
    | cons r t => rw [r.of_str, rps_strs t]; rfl
theorem strs_rps {K : PySem.W.Frag} {G : Hp} : ∀ (ns : List Str), Rps K G (ns.map V.str) (ns.map .str)
  | [] => .nil
  | n :: ns => .cons (.str n) (strs_rps ns)
theorem d_join {p2 pos' : Pos} (ha : PE X a (canW X.K f)) (hb : PE X b (canW X.K h)) (hst : starEach [b] X.env = [(false, eval b X.env)] := by rfl) (hat : attributeBase a "join" X.env (eval a X.env) = eval a X.env := by rfl) (hln : (p2.endLine == pos'.line) = true := by rfl) :
    PE X (.Call (.Attribute a "join" p2) [b] [] pos') (can X.K (e2 joinD f h)) :=
  pe_imp (pe_join ha hb hst hat hln) fun σ H Q ⟨G, ρ, c, E, hf, k⟩ => by
    obtain ⟨d, hd, hf⟩ := Option.bind_eq_some_iff.mp (show (f ρ).bind (fun d => (h ρ).bind fun e => joinD d e) = some c from hf)
    obtain ⟨e, he, hf⟩ := Option.bind_eq_some_iff.mp hf
    obtain ⟨z, ys, rfl, rfl, hl, rfl⟩ := joinD_some hf
    refine ⟨G, ρ, _, E, hd, fun v G1 H1 s1 r1 => ⟨⟨z, r1.str⟩, G1, ρ, _, E.step s1, he, fun w G2 H2 s2 r2 => ?_⟩⟩
    obtain ⟨a, ws, rfl, ha, ra⟩ := r2.lst s2.gh
    have e1 := rps_strs ra
    subst e1
    exact ⟨z, a, ys, (r1.step s2).str, rfl, .inl (SqL.of ha), hl, k _ G2 H2 (s1.trans s2) (.str _)⟩
theorem splitD_some {d e c : Dt} (h : splitD d e = some c) : ∃ a b, d = .str a ∧ e = .str b ∧ ((b.length == 0) = false ∧ a.length + 2 ≤ Lim) ∧ c = .list ((Txt.split a b).map .str) := by
  unfold splitD at h
  split at h
  · next a b =>
    split at h
    · next hl => cases h; exact ⟨a, b, rfl, rfl, hl, rfl⟩
    · cases h
  · cases h
theorem d_split {p2 pos' : Pos} (ha : PE X a (canW X.K f)) (hb : PE X b (canW X.K h)) (hst : starEach [b] X.env = [(false, eval b X.env)] := by rfl) (hat : attributeBase a "split" X.env (eval a X.env) = eval a X.env := by rfl) (hln : (p2.endLine == pos'.line) = true := by rfl) :
    PE X (.Call (.Attribute a "split" p2) [b] [] pos') (can X.K (e2 splitD f h)) :=
  pe_imp (pe_split ha hb hst hat hln) fun σ H Q ⟨G, ρ, c, E, hf, k⟩ => by
    obtain ⟨d, hd, hf⟩ := Option.bind_eq_some_iff.mp (show (f ρ).bind (fun d => (h ρ).bind fun e => splitD d e) = some c from hf)
    obtain ⟨e, he, hf⟩ := Option.bind_eq_some_iff.mp hf
    obtain ⟨z, y, rfl, rfl, hl, rfl⟩ := splitD_some hf
    refine ⟨G, ρ, _, E, hd, fun v G1 H1 s1 r1 => ⟨⟨z, r1.str⟩, G1, ρ, _, E.step s1, he, fun w G2 H2 s2 r2 => ?_⟩⟩
    refine ⟨z, y, (r1.step s2).str, by rw [r2.str], hl.1, by rw [lim_eq]; exact hl.2, fun p hp => ?_⟩
    have s3 := Step.new (o := .lst ((Txt.split z y).map V.str)) s2.gh hp
    exact k _ _ _ ((s1.trans s2).trans s3) (.mk_lst upd_same (strs_rps _))
/-! ### enumerate -/
theorem enumL_get : ∀ (ds : List Dt) (k i : Nat), (enumL k ds)[i]? = (ds[i]?).map fun d => .tuple [.int ((k + i : Nat) : Int), d]
  | [], _, _ => by simp [enumL]
  | d :: ds, k, 0 => by simp [enumL]
  | d :: ds, k, i + 1 => by
    show (enumL (k + 1) ds)[i]? = _
    rw [enumL_get ds (k + 1) i]
    simp [Nat.add_assoc, Nat.add_comm 1 i]
theorem enumL_len : ∀ (ds : List Dt) (k : Nat), (enumL k ds).length = ds.length
  | [], _ => rfl
  | d :: ds, k => by simp [enumL, enumL_len ds]
theorem ite_data {K : PySem.W.Frag} {G : Hp} {a : Addr} {xs : List V} {ds : List Dt} (h : G a = some (.lst xs)) (r : Rps K G xs ds) : ItD K (Ite K a) G (enumL 0 ds) where
  go := fun i G' H' e e' hi => ⟨xs, xs[i]'(by rw [paired_len r]; rwa [enumL_len] at hi), SqL.of (e' _ _ (e _ _ h)), List.getElem?_eq_getElem _⟩
  yld := fun i G' H' H2 v e e' hi y => by
    obtain ⟨T, x, rfl, hT, rfl, y⟩ := y
    have hv := y xs (SqL.of (e' _ _ (e _ _ h)))
    obtain ⟨d, hd, rd⟩ := paired_getL r hv
    have s := Step.new (o := .tup [.int (i : Nat), x]) e' hT
    refine ⟨.tuple [.int (i : Nat), d], _, by rw [enumL_get, hd]; simp, s, .mk_tup upd_same (.cons (.int _) (.cons ((rd.mono e).mono s.g) .nil))⟩
  stop := fun i G' H' e e' hi => ⟨xs, SqL.of (e' _ _ (e _ _ h)), by rw [paired_len r]; rwa [enumL_len] at hi⟩
theorem di_enum {p tpos : Pos} {elts : List Expr} {kk : Nat} (hg : Gl X "enumerate") (hm : X.mg "enumerate" = none) (ha : PA X [a] (canA X.K fs)) (hs : starEach [a] X.env = [(false, eval a X.env)] := by rfl) : PI X (.Tuple elts kk tpos) (.Call (.Name "enumerate" p) [a] [] pos) (canI X.K (iF enumD fs)) := by
  refine ⟨fun pins s σ H R I ⟨G, ρ, xs, E, hf, k⟩ => (pi_enum hg hm ha hs).run pins s σ H R I ?_⟩
  obtain ⟨ds, hds, hf⟩ := Option.bind_eq_some_iff.mp (show (fs ρ).bind enumD = some xs from hf)
  refine ⟨G, ρ, ds, E, hds, fun vs G1 H1 s1 r1 => ?_⟩
  unfold enumD at hf
  split at hf
  · cases hf
    obtain ⟨v, rfl, rv⟩ := paired1 r1
    obtain ⟨a, ws, rfl, ha, ra⟩ := rv.of_lst
    exact ⟨a, ws, rfl, SqL.of (s1.gh _ _ ha), k _ G1 H1 s1 (ite_data ha ra)⟩
  · cases hf
end
end Cc

-- part Pf
set_option maxHeartbeats 4000000
namespace Pf
open PySem Cc
def C_MOST : Dt := (.int 40)
def C_PRIMES : Dt := (.tuple [(.int 5), (.int 7), (.int 11), (.int 13), (.int 17), (.int 19), (.int 23), (.int 29), (.int 31)])
def B_law_drawn : SF :=
  (sSeq (sSet 2 (e2 modD (e2 mulD (e2 addD (e2 addD (getV 0) (e2 mulD (cst (.int 104729)) (getV 1))) (cst (.int 17))) (cst (.int 69621))) (cst (.int 2147483647))))
    (sRet (e2 modD (e2 addD (e2 addD (e2 mulD (getV 2) (getV 2)) (e2 mulD (cst (.int 3)) (getV 2))) (getV 1)) (cst (.int 2147483629)))))
def F_law_drawn : List Dt → Option Dt := runD ["number", "k", "drawn"] ["number", "k"] B_law_drawn
def B_law_good : SF :=
  (sSeq (sAsg (gTupD [2, 3]) (getV 0))
    (sRet (e2 neD (e2 modD (e2 addD (e2 mulD (e2 mulD (e2 mulD (cst (.int 4)) (getV 2)) (getV 2)) (getV 2)) (e2 mulD (e2 mulD (cst (.int 27)) (getV 3)) (getV 3))) (getV 1)) (cst (.int 0)))))
def F_law_good : List Dt → Option Dt := runD ["curve", "size", "a", "b"] ["curve", "size"] B_law_good
def L_law_curve_1 : SF :=
  (sSeq (sSet 3 (callF Pf.F_law_drawn (aCons (getV 0) (aCons (getV 2) aNil))))
    (sSeq (sSet 4 (mkTup (aCons (e2 modD (e2 fdivD (getV 3) (cst (.int 4))) (getV 1)) (aCons (e2 modD (e2 fdivD (getV 3) (cst (.int 256))) (getV 1)) aNil))))
    (sSeq (sIf (tB' (e2 eqD (e2 modD (getV 0) (cst (.int 6))) (cst (.int 0))))
    (sSet 4 (mkTup (aCons (cst (.int 0)) (aCons (e2 ixD (getV 4) (cst (.int 1))) aNil)))) sNil)
    (sSeq (sIf (tB' (e2 eqD (e2 modD (getV 0) (cst (.int 6))) (cst (.int 1))))
    (sSet 4 (mkTup (aCons (e2 ixD (getV 4) (cst (.int 0))) (aCons (cst (.int 0)) aNil)))) sNil)
    (sSeq (sIf (tB' (e2 eqD (e2 modD (getV 0) (cst (.int 6))) (cst (.int 2))))
    (sSeq (sSet 5 (e2 modD (e2 subD (e1 negD (e2 ixD (getV 4) (cst (.int 0)))) (e2 ixD (getV 4) (cst (.int 1)))) (getV 1)))
    (sSeq (sSet 6 (e2 addD (e2 mulD (e2 ixD (getV 4) (cst (.int 0))) (e2 ixD (getV 4) (cst (.int 1)))) (e2 mulD (getV 5) (e2 addD (e2 ixD (getV 4) (cst (.int 0))) (e2 ixD (getV 4) (cst (.int 1)))))))
    (sSet 4 (mkTup (aCons (e2 modD (getV 6) (getV 1)) (aCons (e2 modD (e2 mulD (e2 mulD (e1 negD (e2 ixD (getV 4) (cst (.int 0)))) (e2 ixD (getV 4) (cst (.int 1)))) (getV 5)) (getV 1)) aNil)))))) sNil)
    (sIf (tB' (callF Pf.F_law_good (aCons (getV 4) (aCons (getV 1) aNil))))
    (sRet (getV 4)) sNil))))))
def B_law_curve : SF :=
  (sSeq (sFor (iF rng1D (aCons (cst (.int 40)) aNil)) (gSet 2)
    Pf.L_law_curve_1)
    (sRet (mkTup (aCons (cst (.int 1)) (aCons (cst (.int 0)) aNil)))))
def F_law_curve : List Dt → Option Dt := runD ["number", "size", "k", "drawn", "curve", "third", "high"] ["number", "size"] B_law_curve
def B_law_cell_at : SF :=
  (sSeq (sIf (tB' (e2 ltD (getV 1) (scrLen 0)))
    (sRet (scrAt 0 (getV 1))) sNil)
    (sRet (cst (.int 0))))
def F_law_cell_at : List Int → List Dt → Option Dt := runS ["script", "k"] ["k"] B_law_cell_at
def B_law_mixed : SF :=
  (sSeq (sSet 2 (e2 modD (e2 mulD (e2 addD (e2 addD (callS 0 Pf.F_law_cell_at (aCons (getV 1) aNil)) (e2 mulD (cst (.int 7919)) (getV 1))) (cst (.int 1))) (cst (.int 48271))) (cst (.int 2147483647))))
    (sRet (e2 modD (e2 addD (e2 addD (e2 mulD (getV 2) (getV 2)) (e2 mulD (cst (.int 7)) (getV 2))) (getV 1)) (cst (.int 2147483629)))))
def F_law_mixed : List Int → List Dt → Option Dt := runS ["script", "k", "drawn"] ["k"] B_law_mixed
def L_law_points_1 : SF :=
  (sIf (tB' (e2 eqD (e2 modD (e2 subD (e2 subD (e2 subD (e2 mulD (getV 6) (getV 6)) (e2 mulD (e2 mulD (getV 3) (getV 3)) (getV 3))) (e2 mulD (getV 4) (getV 3))) (getV 5)) (getV 1)) (cst (.int 0))))
    (sApp 2 (mkTup (aCons (getV 3) (aCons (getV 6) aNil)))) sNil)
def L_law_points_2 : SF :=
  (sFor (iF rng1D (aCons (getV 1) aNil)) (gSet 6)
    Pf.L_law_points_1)
def B_law_points : SF :=
  (sSeq (sAsg (gTupD [4, 5]) (getV 0))
    (sSeq (sSetO 2 (lim (aCons (mkTup aNil) aNil)))
    (sSeq (sFor (iF rng1D (aCons (getV 1) aNil)) (gSet 3)
    Pf.L_law_points_2)
    (sRetO 2))))
def F_law_points : List Dt → Option Dt := runD ["curve", "size", "found", "x", "a", "b", "y"] ["curve", "size"] B_law_points
def B_law_same : SF :=
  (sRet (vAn (e1 isBool (getV 0)) (e2 eqD (getV 0) (getV 1))))
def F_law_same : List Dt → Option Dt := runD ["found", "due"] ["found", "due"] B_law_same
def B_law_odd : SF :=
  (sSeq (sSet 1 (mkLst (aCons (e1 negD (cst (.int 1))) (aCons (cst (.int 0)) (aCons (cst (.int 1)) (aCons (cst (.int 2)) (aCons (cst (.bool true)) (aCons (cst (.bool false)) (aCons (cst .none) (aCons (cst (.str (PySem.Str.ofString ""))) (aCons (cst (.str (PySem.Str.ofString "far"))) (aCons (mkTup aNil) (aCons (mkLst aNil) (aCons (mkTup (aCons (cst (.int 0)) aNil)) (aCons (mkTup (aCons (cst (.int 1)) (aCons (cst (.int 2)) aNil))) (aCons (mkTup (aCons (cst (.bool true)) (aCons (cst (.int 1)) aNil))) (aCons (mkLst (aCons (cst (.int 1)) (aCons (cst (.int 2)) aNil))) (aCons (mkTup (aCons (cst (.str (PySem.Str.ofString "0"))) (aCons (cst (.int 1)) aNil))) (aCons (mkTup (aCons (cst (.int 1)) (aCons (cst (.int 2)) (aCons (cst (.int 3)) aNil)))) (aCons (cst (.int 31)) aNil))))))))))))))))))))
    (sRet (e2 ixD (e2 addD (getV 1) (mkLst (aCons (mkTup (aCons (cst (.int 0)) (aCons (cst (.int 0)) aNil))) (aCons (mkTup (aCons (cst (.int 1)) (aCons (cst (.bool false)) aNil))) (aCons (mkTup (aCons (mkTup aNil) (aCons (mkTup aNil) aNil))) (aCons (cst (.int 4)) (aCons (cst (.int 37)) (aCons (cst (.int 9)) (aCons (mkTup (aCons (cst (.int 31)) (aCons (cst (.int 1)) aNil))) (aCons (mkTup (aCons (e1 negD (cst (.int 1))) (aCons (cst (.int 2)) aNil))) (aCons (e2 powD (cst (.int 10)) (cst (.int 30))) aNil))))))))))) (e2 modD (getV 0) (cst (.int 27))))))
def F_law_odd : List Dt → Option Dt := runD ["number", "some"] ["number"] B_law_odd
def B_law_spoilt (self : List Dt → Option Dt) : SF :=
  (sSeq (sIf (tAn (tB' (e2 gtD (getV 2) (cst (.int 0)))) (tAn (tB' (e1 isTuple (getV 0))) (tAn (tB' (e2 gtD (callF lenD (aCons (getV 0) aNil)) (cst (.int 0)))) (tB' (e2 gtD (e2 modD (getV 1) (cst (.int 6))) (cst (.int 0)))))))
    (sSeq (sSet 3 (e2 modD (e2 fdivD (getV 1) (cst (.int 6))) (callF lenD (aCons (getV 0) aNil))))
    (sSeq (sSet 4 (callF self (aCons (e2 ixD (getV 0) (getV 3)) (aCons (e2 fdivD (getV 1) (cst (.int 126))) (aCons (e2 subD (getV 2) (cst (.int 1))) aNil)))))
    (sRet (e2 addD (e2 addD (slcF (getV 0) oNo (oSo (getV 3))) (mkTup (aCons (getV 4) aNil))) (slcF (getV 0) (oSo (e2 addD (getV 3) (cst (.int 1)))) oNo))))) sNil)
    (sSeq (sIf (tAn (tB' (e1 isTuple (getV 0))) (tAn (tB' (e2 gtD (callF lenD (aCons (getV 0) aNil)) (cst (.int 0)))) (tB' (e2 eqD (e2 modD (e2 fdivD (getV 1) (cst (.int 6))) (cst (.int 2))) (cst (.int 0))))))
    (sRet (e2 ixD (mkLst (aCons (callF listD (aCons (getV 0) aNil)) (aCons (slcF (getV 0) oNo (oSo (e1 negD (cst (.int 1))))) (aCons (e2 addD (getV 0) (slcF (getV 0) (oSo (e1 negD (cst (.int 1)))) oNo)) (aCons (slcF (getV 0) (oSo (cst (.int 1))) oNo) (aCons (e1 revD (getV 0)) (aCons (e2 mulD (getV 0) (cst (.int 2))) aNil))))))) (e2 modD (e2 fdivD (getV 1) (cst (.int 12))) (cst (.int 6))))) sNil)
    (sSeq (sIf (tAn (tB' (e1 isInt (getV 0))) (tB' (e2 eqD (e2 modD (e2 fdivD (getV 1) (cst (.int 6))) (cst (.int 2))) (cst (.int 0)))))
    (sRet (e2 ixD (mkLst (aCons (callF strD (aCons (getV 0) aNil)) (aCons (e1 negD (getV 0)) (aCons (e2 addD (getV 0) (cst (.int 1))) (aCons (e2 eqD (getV 0) (cst (.int 1))) (aCons (e2 subD (getV 0) (cst (.int 1))) (aCons (e2 mulD (getV 0) (cst (.int 2))) (aCons (e2 addD (getV 0) (cst (.int 31))) aNil)))))))) (e2 modD (e2 fdivD (getV 1) (cst (.int 12))) (cst (.int 7))))) sNil)
    (sRet (callF Pf.F_law_odd (aCons (e2 fdivD (getV 1) (cst (.int 6))) aNil))))))
def F_law_spoilt_0 : List Dt → Option Dt := fun _ => none
def F_law_spoilt_1 : List Dt → Option Dt := runD ["thing", "number", "deep", "at", "part"] ["thing", "number", "deep"] (B_law_spoilt F_law_spoilt_0)
def F_law_spoilt_2 : List Dt → Option Dt := runD ["thing", "number", "deep", "at", "part"] ["thing", "number", "deep"] (B_law_spoilt F_law_spoilt_1)
def F_law_spoilt_3 : List Dt → Option Dt := runD ["thing", "number", "deep", "at", "part"] ["thing", "number", "deep"] (B_law_spoilt F_law_spoilt_2)
abbrev F_law_spoilt := F_law_spoilt_3
def B_height : SF :=
  (sRet (e2 modD (e2 addD (e2 addD (e2 mulD (e2 mulD (getV 2) (getV 2)) (getV 2)) (e2 mulD (e2 ixD (getV 0) (cst (.int 0))) (getV 2))) (e2 ixD (getV 0) (cst (.int 1)))) (getV 1)))
def F_height : List Dt → Option Dt := runD ["curve", "size", "x"] ["curve", "size", "x"] B_height
def B_is_whole : SF :=
  (sRet (vAn (e1 isInt (getV 0)) (vNt (e1 isBool (getV 0)))))
def F_is_whole : List Dt → Option Dt := runD ["thing"] ["thing"] B_is_whole
def B_is_number : SF :=
  (sRet (vAn (callF Pf.F_is_whole (aCons (getV 0) aNil)) (vChn leD ltD (cst (.int 0)) (getV 0) (getV 1))))
def F_is_number : List Dt → Option Dt := runD ["thing", "size"] ["thing", "size"] B_is_number
def E_is_point_1 : EF :=
  (callF Pf.F_is_number (aCons (getV 3) (aCons (getV 2) aNil)))
def B_is_point : SF :=
  (sSeq (sIf (tB' (e2 eqD (getV 0) (mkTup aNil)))
    (sRet (e1 isTuple (getV 0))) sNil)
    (sSeq (sIf (tOrr (tNt (tB' (e1 isTuple (getV 0)))) (tOrr (tB' (e2 neD (callF lenD (aCons (getV 0) aNil)) (cst (.int 2)))) (tNt (tB' (callF allD (aCons (lstF (lcF (iSeq (getV 0)) [3] (gSet 3) tYesD Pf.E_is_point_1)) aNil))))))
    (sRet (cst (.bool false))) sNil)
    (sRet (e2 eqD (e2 modD (e2 mulD (e2 ixD (getV 0) (cst (.int 1))) (e2 ixD (getV 0) (cst (.int 1)))) (getV 2)) (callF Pf.F_height (aCons (getV 1) (aCons (getV 2) (aCons (e2 ixD (getV 0) (cst (.int 0))) aNil))))))))
def F_is_point : List Dt → Option Dt := runD ["thing", "curve", "size", "part"] ["thing", "curve", "size"] B_is_point
def E_is_curve_1 : EF :=
  (callF Pf.F_is_number (aCons (getV 2) (aCons (getV 1) aNil)))
def B_is_curve : SF :=
  (sSeq (sIf (tOrr (tNt (tB' (e1 isTuple (getV 0)))) (tOrr (tB' (e2 neD (callF lenD (aCons (getV 0) aNil)) (cst (.int 2)))) (tNt (tB' (callF allD (aCons (lstF (lcF (iSeq (getV 0)) [2] (gSet 2) tYesD Pf.E_is_curve_1)) aNil))))))
    (sRet (cst (.bool false))) sNil)
    (sRet (e2 neD (e2 modD (e2 addD (e2 mulD (e2 mulD (e2 mulD (cst (.int 4)) (e2 ixD (getV 0) (cst (.int 0)))) (e2 ixD (getV 0) (cst (.int 0)))) (e2 ixD (getV 0) (cst (.int 0)))) (e2 mulD (e2 mulD (cst (.int 27)) (e2 ixD (getV 0) (cst (.int 1)))) (e2 ixD (getV 0) (cst (.int 1))))) (getV 1)) (cst (.int 0)))))
def F_is_curve : List Dt → Option Dt := runD ["thing", "size", "part"] ["thing", "size"] B_is_curve
def L_law_are_numbers_1 : SF :=
  (sIf (tOrr (tNt (tB' (e1 isInt (getV 2)))) (tOrr (tB' (e1 isBool (getV 2))) (tNt (tB' (vChn leD ltD (cst (.int 0)) (getV 2) (getV 1))))))
    (sRet (cst (.bool false))) sNil)
def B_law_are_numbers : SF :=
  (sSeq (sIf (tOrr (tNt (tB' (e1 isTuple (getV 0)))) (tB' (e2 neD (callF lenD (aCons (getV 0) aNil)) (cst (.int 2)))))
    (sRet (cst (.bool false))) sNil)
    (sSeq (sFor (iSeq (getV 0)) (gSet 2)
    Pf.L_law_are_numbers_1)
    (sRet (cst (.bool true)))))
def F_law_are_numbers : List Dt → Option Dt := runD ["thing", "size", "part"] ["thing", "size"] B_law_are_numbers
def B_is_clock : SF :=
  (sRet (vAn (callF Pf.F_is_whole (aCons (getV 0) aNil)) (e2 inD (getV 0) (cst Pf.C_PRIMES))))
def F_is_clock : List Dt → Option Dt := runD ["thing"] ["thing"] B_is_clock
def L_law_k01_1 : SF :=
  (sSeq (sSet 7 (vAn (e1 isInt (getV 5)) (vAn (vNt (e1 isBool (getV 5))) (e2 inD (getV 5) (getV 4)))))
    (sIf (tNt (tB' (callF Pf.F_law_same (aCons (callF Pf.F_is_clock (aCons (getV 5) aNil)) (aCons (getV 7) aNil)))))
    (sRet (cst (.bool false))) sNil))
def L_law_k01_2 : SF :=
  (sIf (tNt (tB' (callF Pf.F_law_same (aCons (callF Pf.F_is_clock (aCons (getV 5) aNil)) (aCons (e2 inD (getV 5) (getV 4)) aNil)))))
    (sRet (cst (.bool false))) sNil)
def B_law_k01 : SF :=
  (sSeq (sSet 1 (e2 ixD (mkTup (aCons (cst (.int 5)) (aCons (cst (.int 7)) (aCons (cst (.int 11)) (aCons (cst (.int 13)) (aCons (cst (.int 17)) (aCons (cst (.int 19)) (aCons (cst (.int 23)) (aCons (cst (.int 29)) (aCons (cst (.int 31)) aNil)))))))))) (e2 modD (callS 0 Pf.F_law_mixed (aCons (cst (.int 0)) aNil)) (cst (.int 9)))))
    (sSeq (sSet 2 (callF Pf.F_law_curve (aCons (callS 0 Pf.F_law_mixed (aCons (cst (.int 1)) aNil)) (aCons (getV 1) aNil))))
    (sSeq (sSet 3 (callS 0 Pf.F_law_mixed (aCons (cst (.int 2)) aNil)))
    (sSeq (sSet 4 (mkTup (aCons (cst (.int 5)) (aCons (cst (.int 7)) (aCons (cst (.int 11)) (aCons (cst (.int 13)) (aCons (cst (.int 17)) (aCons (cst (.int 19)) (aCons (cst (.int 23)) (aCons (cst (.int 29)) (aCons (cst (.int 31)) aNil)))))))))))
    (sSeq (sFor (iF rng2D (aCons (e1 negD (cst (.int 2))) (aCons (cst (.int 71)) aNil))) (gSet 5)
    Pf.L_law_k01_2)
    (sSeq (sFor (iSeq (mkLst (aCons (cst (.bool true)) (aCons (cst .none) (aCons (cst (.str (PySem.Str.ofString "7"))) (aCons (mkTup (aCons (cst (.int 7)) aNil)) (aCons (mkLst (aCons (cst (.int 7)) aNil)) (aCons (mkTup aNil) (aCons (callF Pf.F_law_odd (aCons (getV 3) aNil)) (aCons (e2 addD (e2 powD (cst (.int 10)) (cst (.int 30))) (cst (.int 57))) aNil)))))))))) (gSet 5)
    Pf.L_law_k01_1)
    (sSeq (sSet 5 (getV 2))
    (sSeq (sIf (tB' (e2 eqD (e2 modD (getV 3) (cst (.int 4))) (cst (.int 0))))
    (sSet 5 (mkTup (aCons (e2 modD (e2 fdivD (getV 3) (cst (.int 4))) (getV 1)) (aCons (e2 modD (e2 fdivD (getV 3) (cst (.int 256))) (getV 1)) aNil)))) sNil)
    (sSeq (sIf (tB' (e2 gtD (e2 modD (getV 3) (cst (.int 4))) (cst (.int 1))))
    (sSet 5 (callF Pf.F_law_spoilt (aCons (getV 2) (aCons (callS 0 Pf.F_law_mixed (aCons (cst (.int 3)) aNil)) (aCons (e2 modD (e2 fdivD (getV 3) (cst (.int 4))) (cst (.int 3))) aNil))))) sNil)
    (sSeq (sIf (tNt (tB' (callF Pf.F_law_same (aCons (callF Pf.F_is_curve (aCons (getV 5) (aCons (getV 1) aNil))) (aCons (vAn (callF Pf.F_law_are_numbers (aCons (getV 5) (aCons (getV 1) aNil))) (callF Pf.F_law_good (aCons (getV 5) (aCons (getV 1) aNil)))) aNil)))))
    (sRet (cst (.bool false))) sNil)
    (sSeq (sSet 6 (callF Pf.F_law_points (aCons (getV 2) (aCons (getV 1) aNil))))
    (sSeq (sSet 5 (e2 ixD (getV 6) (e2 modD (e2 fdivD (getV 3) (cst (.int 1024))) (callF lenD (aCons (getV 6) aNil)))))
    (sSeq (sIf (tB' (e2 eqD (e2 modD (getV 3) (cst (.int 3))) (cst (.int 0))))
    (sSet 5 (mkTup (aCons (e2 modD (e2 fdivD (getV 3) (cst (.int 3))) (getV 1)) (aCons (e2 modD (e2 fdivD (getV 3) (cst (.int 256))) (getV 1)) aNil)))) sNil)
    (sSeq (sIf (tB' (e2 eqD (e2 modD (getV 3) (cst (.int 3))) (cst (.int 1))))
    (sSet 5 (callF Pf.F_law_spoilt (aCons (getV 5) (aCons (callS 0 Pf.F_law_mixed (aCons (cst (.int 4)) aNil)) (aCons (e2 modD (e2 fdivD (getV 3) (cst (.int 3))) (cst (.int 3))) aNil))))) sNil)
    (sSeq (sSet 7 (vAn (e1 isTuple (getV 5)) (vAn (e2 inD (getV 5) (getV 6)) (vOr (e2 eqD (getV 5) (mkTup aNil)) (callF Pf.F_law_are_numbers (aCons (getV 5) (aCons (getV 1) aNil)))))))
    (sRet (callF Pf.F_law_same (aCons (callF Pf.F_is_point (aCons (getV 5) (aCons (getV 2) (aCons (getV 1) aNil)))) (aCons (getV 7) aNil)))))))))))))))))))
def F_law_k01 : List Int → List Dt → Option Dt := runS ["script", "size", "curve", "number", "clocks", "thing", "some", "due"] [] B_law_k01
def L_power_1 : SF :=
  (sSet 3 (e2 modD (e2 mulD (getV 3) (getV 0)) (getV 2)))
def B_power : SF :=
  (sSeq (sSet 3 (cst (.int 1)))
    (sSeq (sFor (iF rng1D (aCons (getV 1) aNil)) (gSet 4)
    Pf.L_power_1)
    (sRet (getV 3))))
def F_power : List Dt → Option Dt := runD ["number", "often", "size", "found", "step"] ["number", "often", "size"] B_power
def B_inverse : SF :=
  (sSeq (sIf (tB' (e2 eqD (getV 0) (cst (.int 0))))
    sNever sNil)
    (sRet (callF Pf.F_power (aCons (getV 0) (aCons (e2 subD (getV 1) (cst (.int 2))) (aCons (getV 1) aNil))))))
def F_inverse : List Dt → Option Dt := runD ["number", "size"] ["number", "size"] B_inverse
def L_root_1 : SF :=
  (sIf (tB' (e2 eqD (e2 modD (e2 mulD (getV 2) (getV 2)) (getV 1)) (getV 0)))
    (sRet (getV 2)) sNil)
def B_root : SF :=
  (sSeq (sFor (iF rng1D (aCons (getV 1) aNil)) (gSet 2)
    Pf.L_root_1)
    (sRet (cst .none)))
def F_root : List Dt → Option Dt := runD ["number", "size", "other"] ["number", "size"] B_root
def E_law_drawn_points_1 : EF :=
  (e2 ixD (getV 1) (e2 modD (e2 fdivD (callF Pf.F_law_drawn (aCons (getV 0) (aCons (getV 3) aNil))) (cst (.int 4))) (callF lenD (aCons (getV 1) aNil))))
def B_law_drawn_points : SF :=
  (sSeq (sSet 2 (e2 ixD (mkTup (aCons (e2 modD (getV 0) (cst (.int 6))) (aCons (cst (.int 40)) (aCons (cst (.int 41)) aNil)))) (e2 addD (callF intD (aCons (e2 eqD (e2 modD (e2 fdivD (getV 0) (cst (.int 6))) (cst (.int 9))) (cst (.int 1))) aNil)) (callF intD (aCons (e2 eqD (e2 modD (e2 fdivD (getV 0) (cst (.int 6))) (cst (.int 18))) (cst (.int 1))) aNil)))))
    (sRet (callF tupleD (aCons (lstF (lcF (iF rng1D (aCons (getV 2) aNil)) [3] (gSet 3) tYesD Pf.E_law_drawn_points_1)) aNil))))
def F_law_drawn_points : List Dt → Option Dt := runD ["number", "some", "many", "k"] ["number", "some"] B_law_drawn_points
def B_point_text : SF :=
  (sSeq (sIf (tB' (e2 eqD (getV 0) (mkTup aNil)))
    (sRet (cst (.str (PySem.Str.ofString "far")))) sNil)
    (sRet (e2 addD (e2 addD (callF strD (aCons (e2 ixD (getV 0) (cst (.int 0))) aNil)) (cst (.str (PySem.Str.ofString ",")))) (callF strD (aCons (e2 ixD (getV 0) (cst (.int 1))) aNil)))))
def F_point_text : List Dt → Option Dt := runD ["point"] ["point"] B_point_text
def E_written_1 : EF :=
  (callF Pf.F_point_text (aCons (getV 3) aNil))
def B_written : SF :=
  (sRet (e2 joinD (cst (.str (PySem.Str.ofString " "))) (e2 addD (mkLst (aCons (callF strD (aCons (getV 0) aNil)) (aCons (callF strD (aCons (e2 ixD (getV 1) (cst (.int 0))) aNil)) (aCons (callF strD (aCons (e2 ixD (getV 1) (cst (.int 1))) aNil)) aNil)))) (lstF (lcF (iSeq (getV 2)) [3] (gSet 3) tYesD Pf.E_written_1)))))
def F_written : List Dt → Option Dt := runD ["size", "curve", "some", "point"] ["size", "curve", "some"] B_written
def B_law_point_text : SF :=
  (sSeq (sIf (tB' (e2 eqD (getV 0) (mkTup aNil)))
    (sRet (cst (.str (PySem.Str.ofString "far")))) sNil)
    (sRet (e2 addD (e2 addD (callF strD (aCons (e2 ixD (getV 0) (cst (.int 0))) aNil)) (cst (.str (PySem.Str.ofString ",")))) (callF strD (aCons (e2 ixD (getV 0) (cst (.int 1))) aNil)))))
def F_law_point_text : List Dt → Option Dt := runD ["point"] ["point"] B_law_point_text
def E_law_text_1 : EF :=
  (callF Pf.F_law_point_text (aCons (getV 3) aNil))
def B_law_text : SF :=
  (sRet (e2 joinD (cst (.str (PySem.Str.ofString " "))) (e2 addD (mkLst (aCons (callF strD (aCons (getV 0) aNil)) (aCons (callF strD (aCons (e2 ixD (getV 1) (cst (.int 0))) aNil)) (aCons (callF strD (aCons (e2 ixD (getV 1) (cst (.int 1))) aNil)) aNil)))) (lstF (lcF (iSeq (getV 2)) [3] (gSet 3) tYesD Pf.E_law_text_1)))))
def F_law_text : List Dt → Option Dt := runD ["size", "curve", "some", "point"] ["size", "curve", "some"] B_law_text
def B_law_k03 : SF :=
  (sSeq (sSet 1 (e2 ixD (mkTup (aCons (cst (.int 5)) (aCons (cst (.int 7)) (aCons (cst (.int 11)) (aCons (cst (.int 13)) (aCons (cst (.int 17)) (aCons (cst (.int 19)) (aCons (cst (.int 23)) (aCons (cst (.int 29)) (aCons (cst (.int 31)) aNil)))))))))) (e2 modD (callS 0 Pf.F_law_mixed (aCons (cst (.int 0)) aNil)) (cst (.int 9)))))
    (sSeq (sSet 2 (callF Pf.F_law_curve (aCons (callS 0 Pf.F_law_mixed (aCons (cst (.int 1)) aNil)) (aCons (getV 1) aNil))))
    (sSeq (sSet 3 (slcF (callF Pf.F_law_drawn_points (aCons (callS 0 Pf.F_law_mixed (aCons (cst (.int 2)) aNil)) (aCons (callF Pf.F_law_points (aCons (getV 2) (aCons (getV 1) aNil))) aNil))) oNo (oSo (cst (.int 40)))))
    (sRet (e2 eqD (callF Pf.F_written (aCons (getV 1) (aCons (getV 2) (aCons (getV 3) aNil)))) (callF Pf.F_law_text (aCons (getV 1) (aCons (getV 2) (aCons (getV 3) aNil)))))))))
def F_law_k03 : List Int → List Dt → Option Dt := runS ["script", "size", "curve", "some"] [] B_law_k03
def T_law_is_right_1 : TF :=
  (tB' (e1 isBool (getV 1)))
def E_law_is_right_1 : EF :=
  (getV 1)
def L_law_is_right_1 : SF :=
  (sSeq (sIf (tOrr (tNt (tB' (e1 isTuple (getV 3)))) (tB' (e2 notInD (getV 3) (getV 2))))
    (sRet (cst (.bool false))) sNil)
    (sIf (tB' (e2 neD (lstF (lcF (iSeq (getV 3)) [1] (gSet 1) Pf.T_law_is_right_1 Pf.E_law_is_right_1)) (mkLst aNil)))
    (sRet (cst (.bool false))) sNil))
def L_law_is_right_2 : SF :=
  (sIf (tOrr (tNt (tB' (e1 isInt (getV 1)))) (tOrr (tB' (e1 isBool (getV 1))) (tNt (tB' (vChn leD ltD (cst (.int 0)) (getV 1) (callF maxD (aCons (getV 4) (aCons (e2 addD (getV 1) (cst (.int 1))) aNil))))))))
    (sRet (cst (.bool false))) sNil)
def B_law_is_right : SF :=
  (sSeq (sIf (tOrr (tNt (tB' (e1 isTuple (getV 0)))) (tOrr (tB' (e2 neD (callF lenD (aCons (getV 0) aNil)) (cst (.int 3)))) (tB' (e2 notInD (e2 ixD (getV 0) (cst (.int 0))) (mkTup (aCons (cst (.int 5)) (aCons (cst (.int 7)) (aCons (cst (.int 11)) (aCons (cst (.int 13)) (aCons (cst (.int 17)) (aCons (cst (.int 19)) (aCons (cst (.int 23)) (aCons (cst (.int 29)) (aCons (cst (.int 31)) aNil))))))))))))))
    (sRet (cst (.bool false))) sNil)
    (sSeq (sAsg (gTupD [4, 5, 6]) (getV 0))
    (sSeq (sIf (tOrr (tNt (tB' (e1 isTuple (getV 5)))) (tOrr (tB' (e2 neD (callF lenD (aCons (getV 5) aNil)) (cst (.int 2)))) (tOrr (tNt (tB' (e1 isTuple (getV 6)))) (tB' (e2 gtD (callF lenD (aCons (getV 6) aNil)) (cst (.int 40)))))))
    (sRet (cst (.bool false))) sNil)
    (sSeq (sFor (iSeq (e2 addD (getV 5) (mkTup (aCons (getV 4) aNil)))) (gSet 1)
    Pf.L_law_is_right_2)
    (sSeq (sIf (tOrr (tB' (e2 geD (callF maxD (aCons (getV 5) aNil)) (getV 4))) (tNt (tB' (callF Pf.F_law_good (aCons (getV 5) (aCons (getV 4) aNil))))))
    (sRet (cst (.bool false))) sNil)
    (sSeq (sSet 2 (callF Pf.F_law_points (aCons (getV 5) (aCons (getV 4) aNil))))
    (sSeq (sFor (iSeq (getV 6)) (gSet 3)
    Pf.L_law_is_right_1)
    (sRet (cst (.bool true))))))))))
def F_law_is_right : List Dt → Option Dt := runD ["thing", "part", "every", "point", "size", "curve", "some"] ["thing"] B_law_is_right
def T_points_1 : TF :=
  (tB' (e2 eqD (e2 modD (e2 mulD (getV 4) (getV 4)) (getV 1)) (callF Pf.F_height (aCons (getV 0) (aCons (getV 1) (aCons (getV 3) aNil))))))
def E_points_1 : EF :=
  (mkTup (aCons (getV 3) (aCons (getV 4) aNil)))
def L_points_1 : SF :=
  (sExt 2 (lstF (lcF (iF rng1D (aCons (getV 1) aNil)) [4] (gSet 4) Pf.T_points_1 Pf.E_points_1)))
def B_points : SF :=
  (sSeq (sSetO 2 (lim (aCons (mkTup aNil) aNil)))
    (sSeq (sFor (iF rng1D (aCons (getV 1) aNil)) (gSet 3)
    Pf.L_points_1)
    (sRet (callF tupleD (aCons (getW 2) aNil)))))
def F_points : List Dt → Option Dt := runD ["curve", "size", "found", "x", "y"] ["curve", "size"] B_points
def B_count : SF :=
  (sRet (callF lenD (aCons (callF Pf.F_points (aCons (getV 0) (aCons (getV 1) aNil))) aNil)))
def F_count : List Dt → Option Dt := runD ["curve", "size"] ["curve", "size"] B_count
def T_law_k10_1 : TF :=
  (tB' (e1 isBool (getV 7)))
def E_law_k10_1 : EF :=
  (getV 7)
def T_law_k10_2 : TF :=
  (tB' (e2 neD (lstF (lcF (iSeq (getV 6)) [7] (gSet 7) Pf.T_law_k10_1 Pf.E_law_k10_1)) (mkLst aNil)))
def E_law_k10_2 : EF :=
  (getV 6)
def T_law_k10_3 : TF :=
  (tB' (e2 notBD (callF Pf.F_is_point (aCons (getV 6) (aCons (getV 2) (aCons (getV 1) aNil)))) (cst (.bool true))))
def E_law_k10_3 : EF :=
  (getV 6)
def B_law_k10 : SF :=
  (sSeq (sSet 1 (e2 ixD (mkTup (aCons (cst (.int 5)) (aCons (cst (.int 7)) (aCons (cst (.int 11)) (aCons (cst (.int 13)) (aCons (cst (.int 17)) (aCons (cst (.int 19)) (aCons (cst (.int 23)) (aCons (cst (.int 29)) (aCons (cst (.int 31)) aNil)))))))))) (e2 modD (callS 0 Pf.F_law_mixed (aCons (cst (.int 0)) aNil)) (cst (.int 9)))))
    (sSeq (sSet 2 (callF Pf.F_law_curve (aCons (callS 0 Pf.F_law_mixed (aCons (cst (.int 1)) aNil)) (aCons (getV 1) aNil))))
    (sSeq (sSet 3 (callF Pf.F_law_points (aCons (getV 2) (aCons (getV 1) aNil))))
    (sSeq (sSet 4 (callF Pf.F_points (aCons (getV 2) (aCons (getV 1) aNil))))
    (sSeq (sIf (tB' (e2 neD (getV 4) (callF tupleD (aCons (getV 3) aNil))))
    (sRet (cst (.bool false))) sNil)
    (sSeq (sIf (tB' (e2 neD (lstF (lcF (iSeq (getV 4)) [6] (gSet 6) Pf.T_law_k10_3 Pf.E_law_k10_3)) (mkLst aNil)))
    (sRet (cst (.bool false))) sNil)
    (sSeq (sIf (tB' (e2 neD (lstF (lcF (iSeq (getV 4)) [6] (gSet 6) Pf.T_law_k10_2 Pf.E_law_k10_2)) (mkLst aNil)))
    (sRet (cst (.bool false))) sNil)
    (sSeq (sSet 5 (callF Pf.F_count (aCons (getV 2) (aCons (getV 1) aNil))))
    (sRet (vAn (e2 eqD (getV 5) (callF lenD (aCons (getV 3) aNil))) (vNt (e1 isBool (getV 5)))))))))))))
def F_law_k10 : List Int → List Dt → Option Dt := runS ["script", "size", "curve", "due", "found", "many", "point", "part"] [] B_law_k10
def B_slope : SF :=
  (sSeq (sIf (tB' (e2 eqD (getV 2) (getV 3)))
    (sRet (e2 modD (e2 mulD (e2 addD (e2 mulD (e2 mulD (cst (.int 3)) (e2 ixD (getV 2) (cst (.int 0)))) (e2 ixD (getV 2) (cst (.int 0)))) (e2 ixD (getV 0) (cst (.int 0)))) (callF Pf.F_inverse (aCons (e2 modD (e2 mulD (cst (.int 2)) (e2 ixD (getV 2) (cst (.int 1)))) (getV 1)) (aCons (getV 1) aNil)))) (getV 1))) sNil)
    (sRet (e2 modD (e2 mulD (e2 subD (e2 ixD (getV 3) (cst (.int 1))) (e2 ixD (getV 2) (cst (.int 1)))) (callF Pf.F_inverse (aCons (e2 modD (e2 subD (e2 ixD (getV 3) (cst (.int 0))) (e2 ixD (getV 2) (cst (.int 0)))) (getV 1)) (aCons (getV 1) aNil)))) (getV 1))))
def F_slope : List Dt → Option Dt := runD ["curve", "size", "one", "other"] ["curve", "size", "one", "other"] B_slope
def B_plus : SF :=
  (sSeq (sIf (tB' (e2 eqD (getV 2) (mkTup aNil)))
    (sRet (getV 3)) sNil)
    (sSeq (sIf (tB' (e2 eqD (getV 3) (mkTup aNil)))
    (sRet (getV 2)) sNil)
    (sSeq (sIf (tAn (tB' (e2 eqD (e2 ixD (getV 2) (cst (.int 0))) (e2 ixD (getV 3) (cst (.int 0))))) (tB' (e2 eqD (e2 modD (e2 addD (e2 ixD (getV 2) (cst (.int 1))) (e2 ixD (getV 3) (cst (.int 1)))) (getV 1)) (cst (.int 0)))))
    (sRet (mkTup aNil)) sNil)
    (sSeq (sSet 4 (callF Pf.F_slope (aCons (getV 0) (aCons (getV 1) (aCons (getV 2) (aCons (getV 3) aNil))))))
    (sSeq (sSet 5 (e2 modD (e2 subD (e2 subD (e2 mulD (getV 4) (getV 4)) (e2 ixD (getV 2) (cst (.int 0)))) (e2 ixD (getV 3) (cst (.int 0)))) (getV 1)))
    (sRet (mkTup (aCons (getV 5) (aCons (e2 modD (e2 subD (e2 mulD (getV 4) (e2 subD (e2 ixD (getV 2) (cst (.int 0))) (getV 5))) (e2 ixD (getV 2) (cst (.int 1)))) (getV 1)) aNil)))))))))
def F_plus : List Dt → Option Dt := runD ["curve", "size", "one", "other", "steep", "x"] ["curve", "size", "one", "other"] B_plus
def B_minus : SF :=
  (sSeq (sIf (tB' (e2 eqD (getV 2) (mkTup aNil)))
    (sRet (mkTup aNil)) sNil)
    (sRet (mkTup (aCons (e2 ixD (getV 2) (cst (.int 0))) (aCons (e2 modD (e1 negD (e2 ixD (getV 2) (cst (.int 1)))) (getV 1)) aNil)))))
def F_minus : List Dt → Option Dt := runD ["curve", "size", "point"] ["curve", "size", "point"] B_minus
def T_law_divided_1 : TF :=
  (tB' (e2 eqD (e2 modD (e2 subD (e2 mulD (getV 3) (getV 1)) (getV 0)) (getV 2)) (cst (.int 0))))
def E_law_divided_1 : EF :=
  (getV 3)
def B_law_divided : SF :=
  (sRet (e2 ixD (lstF (lcF (iF rng1D (aCons (getV 2) aNil)) [3] (gSet 3) Pf.T_law_divided_1 Pf.E_law_divided_1)) (cst (.int 0))))
def F_law_divided : List Dt → Option Dt := runD ["upper", "lower", "size", "number"] ["upper", "lower", "size"] B_law_divided
def B_law_plus : SF :=
  (sSeq (sIf (tOrr (tB' (e2 eqD (getV 2) (mkTup aNil))) (tB' (e2 eqD (getV 3) (mkTup aNil))))
    (sRet (e2 addD (getV 2) (getV 3))) sNil)
    (sSeq (sIf (tAn (tB' (e2 eqD (e2 ixD (getV 2) (cst (.int 0))) (e2 ixD (getV 3) (cst (.int 0))))) (tOrr (tB' (e2 neD (e2 ixD (getV 2) (cst (.int 1))) (e2 ixD (getV 3) (cst (.int 1))))) (tB' (e2 eqD (e2 ixD (getV 2) (cst (.int 1))) (cst (.int 0))))))
    (sRet (mkTup aNil)) sNil)
    (sSeq (sIf (tB' (e2 eqD (getV 2) (getV 3)))
    (sSet 5 (callF Pf.F_law_divided (aCons (e2 addD (e2 mulD (e2 mulD (cst (.int 3)) (e2 ixD (getV 2) (cst (.int 0)))) (e2 ixD (getV 2) (cst (.int 0)))) (e2 ixD (getV 0) (cst (.int 0)))) (aCons (e2 mulD (cst (.int 2)) (e2 ixD (getV 2) (cst (.int 1)))) (aCons (getV 1) aNil))))) (sSet 5 (callF Pf.F_law_divided (aCons (e2 subD (e2 ixD (getV 2) (cst (.int 1))) (e2 ixD (getV 3) (cst (.int 1)))) (aCons (e2 subD (e2 ixD (getV 2) (cst (.int 0))) (e2 ixD (getV 3) (cst (.int 0)))) (aCons (getV 1) aNil))))))
    (sSeq (sSet 4 (e2 modD (e2 subD (e2 subD (e2 mulD (getV 5) (getV 5)) (e2 ixD (getV 2) (cst (.int 0)))) (e2 ixD (getV 3) (cst (.int 0)))) (getV 1)))
    (sRet (mkTup (aCons (getV 4) (aCons (e2 modD (e2 subD (e2 mulD (getV 5) (e2 subD (e2 ixD (getV 3) (cst (.int 0))) (getV 4))) (e2 ixD (getV 3) (cst (.int 1)))) (getV 1)) aNil))))))))
def F_law_plus : List Dt → Option Dt := runD ["curve", "size", "one", "other", "x", "steep"] ["curve", "size", "one", "other"] B_law_plus
def T_law_k11_1 : TF :=
  (tB' (e1 isBool (getV 7)))
def E_law_k11_1 : EF :=
  (getV 7)
def L_law_k11_1 : SF :=
  (sSeq (sSet 6 (callF Pf.F_plus (aCons (getV 2) (aCons (getV 1) (aCons (getV 4) (aCons (getV 5) aNil))))))
    (sSeq (sIf (tOrr (tB' (e2 neD (getV 6) (callF Pf.F_law_plus (aCons (getV 2) (aCons (getV 1) (aCons (getV 4) (aCons (getV 5) aNil))))))) (tB' (e2 neD (lstF (lcF (iSeq (getV 6)) [7] (gSet 7) Pf.T_law_k11_1 Pf.E_law_k11_1)) (mkLst aNil))))
    (sRet (cst (.bool false))) sNil)
    (sSeq (sSet 6 (callF Pf.F_minus (aCons (getV 2) (aCons (getV 1) (aCons (getV 5) aNil)))))
    (sIf (tOrr (tB' (e2 notInD (getV 6) (getV 3))) (tB' (e2 neD (callF Pf.F_law_plus (aCons (getV 2) (aCons (getV 1) (aCons (getV 5) (aCons (getV 6) aNil))))) (mkTup aNil))))
    (sRet (cst (.bool false))) sNil))))
def B_law_k11 : SF :=
  (sSeq (sSet 1 (e2 ixD (mkTup (aCons (cst (.int 5)) (aCons (cst (.int 7)) (aCons (cst (.int 11)) (aCons (cst (.int 13)) (aCons (cst (.int 17)) (aCons (cst (.int 19)) (aCons (cst (.int 23)) (aCons (cst (.int 29)) (aCons (cst (.int 31)) aNil)))))))))) (e2 modD (callS 0 Pf.F_law_mixed (aCons (cst (.int 0)) aNil)) (cst (.int 9)))))
    (sSeq (sSet 2 (callF Pf.F_law_curve (aCons (callS 0 Pf.F_law_mixed (aCons (cst (.int 1)) aNil)) (aCons (getV 1) aNil))))
    (sSeq (sSet 3 (callF Pf.F_law_points (aCons (getV 2) (aCons (getV 1) aNil))))
    (sSeq (sSet 4 (e2 ixD (getV 3) (e2 modD (callS 0 Pf.F_law_mixed (aCons (cst (.int 2)) aNil)) (callF lenD (aCons (getV 3) aNil)))))
    (sSeq (sFor (iSeq (getV 3)) (gSet 5)
    Pf.L_law_k11_1)
    (sRet (e2 eqD (callF Pf.F_minus (aCons (getV 2) (aCons (getV 1) (aCons (mkTup aNil) aNil)))) (mkTup aNil))))))))
def F_law_k11 : List Int → List Dt → Option Dt := runS ["script", "size", "curve", "some", "one", "other", "found", "part"] [] B_law_k11
def E_law_k12_1 : EF :=
  (callF Pf.F_plus (aCons (getV 2) (aCons (getV 1) (aCons (getV 4) (aCons (getV 7) aNil)))))
def L_law_k12_1 : SF :=
  (sIf (tB' (e2 neD (callF Pf.F_plus (aCons (getV 2) (aCons (getV 1) (aCons (getV 6) (aCons (getV 7) aNil))))) (callF Pf.F_plus (aCons (getV 2) (aCons (getV 1) (aCons (getV 4) (aCons (callF Pf.F_plus (aCons (getV 2) (aCons (getV 1) (aCons (getV 5) (aCons (getV 7) aNil))))) aNil)))))))
    (sRet (cst (.bool false))) sNil)
def B_law_k12 : SF :=
  (sSeq (sSet 1 (e2 ixD (mkTup (aCons (cst (.int 5)) (aCons (cst (.int 7)) (aCons (cst (.int 11)) (aCons (cst (.int 13)) (aCons (cst (.int 17)) (aCons (cst (.int 19)) (aCons (cst (.int 23)) (aCons (cst (.int 29)) (aCons (cst (.int 31)) aNil)))))))))) (e2 modD (callS 0 Pf.F_law_mixed (aCons (cst (.int 0)) aNil)) (cst (.int 9)))))
    (sSeq (sSet 2 (callF Pf.F_law_curve (aCons (callS 0 Pf.F_law_mixed (aCons (cst (.int 1)) aNil)) (aCons (getV 1) aNil))))
    (sSeq (sSet 3 (callF Pf.F_law_points (aCons (getV 2) (aCons (getV 1) aNil))))
    (sSeq (sSet 4 (e2 ixD (getV 3) (e2 modD (callS 0 Pf.F_law_mixed (aCons (cst (.int 2)) aNil)) (callF lenD (aCons (getV 3) aNil)))))
    (sSeq (sSet 5 (e2 ixD (getV 3) (e2 modD (callS 0 Pf.F_law_mixed (aCons (cst (.int 3)) aNil)) (callF lenD (aCons (getV 3) aNil)))))
    (sSeq (sSet 6 (callF Pf.F_plus (aCons (getV 2) (aCons (getV 1) (aCons (getV 4) (aCons (getV 5) aNil))))))
    (sSeq (sIf (tOrr (tB' (e2 notInD (getV 6) (getV 3))) (tOrr (tB' (e2 neD (callF Pf.F_plus (aCons (getV 2) (aCons (getV 1) (aCons (getV 5) (aCons (getV 4) aNil))))) (getV 6))) (tB' (e2 neD (callF Pf.F_plus (aCons (getV 2) (aCons (getV 1) (aCons (getV 4) (aCons (mkTup aNil) aNil))))) (getV 4)))))
    (sRet (cst (.bool false))) sNil)
    (sSeq (sIf (tOrr (tB' (e2 neD (callF Pf.F_plus (aCons (getV 2) (aCons (getV 1) (aCons (getV 4) (aCons (callF Pf.F_minus (aCons (getV 2) (aCons (getV 1) (aCons (getV 4) aNil)))) aNil))))) (mkTup aNil))) (tB' (e2 neD (callF Pf.F_minus (aCons (getV 2) (aCons (getV 1) (aCons (callF Pf.F_minus (aCons (getV 2) (aCons (getV 1) (aCons (getV 4) aNil)))) aNil)))) (getV 4))))
    (sRet (cst (.bool false))) sNil)
    (sSeq (sFor (iSeq (getV 3)) (gSet 7)
    Pf.L_law_k12_1)
    (sRet (e2 eqD (e1 lenSetD (lstF (lcF (iSeq (getV 3)) [7] (gSet 7) tYesD Pf.E_law_k12_1))) (callF lenD (aCons (getV 3) aNil)))))))))))))
def F_law_k12 : List Int → List Dt → Option Dt := runS ["script", "size", "curve", "some", "one", "other", "both", "third"] [] B_law_k12
def W_times_1 : TF :=
  (tB' (e2 gtD (getV 6) (cst (.int 0))))
def L_times_1 : SF :=
  (sSeq (sIf (tB' (e2 eqD (e2 modD (getV 6) (cst (.int 2))) (cst (.int 1))))
    (sSet 4 (callF Pf.F_plus (aCons (getV 0) (aCons (getV 1) (aCons (getV 4) (aCons (getV 5) aNil)))))) sNil)
    (sSeq (sSet 5 (callF Pf.F_plus (aCons (getV 0) (aCons (getV 1) (aCons (getV 5) (aCons (getV 5) aNil))))))
    (sSet 6 (e2 fdivD (getV 6) (cst (.int 2))))))
def B_times (self : List Dt → Option Dt) : SF :=
  (sSeq (sIf (tB' (e2 ltD (getV 2) (cst (.int 0))))
    (sRet (callF self (aCons (getV 0) (aCons (getV 1) (aCons (e1 negD (getV 2)) (aCons (callF Pf.F_minus (aCons (getV 0) (aCons (getV 1) (aCons (getV 3) aNil)))) aNil)))))) sNil)
    (sSeq (sSet 4 (mkTup aNil))
    (sSeq (sSet 5 (getV 3))
    (sSeq (sSet 6 (getV 2))
    (sSeq (whileL Pf.W_times_1
    Pf.L_times_1 300)
    (sRet (getV 4)))))))
def F_times_0 : List Dt → Option Dt := fun _ => none
def F_times_1 : List Dt → Option Dt := runD ["curve", "size", "number", "point", "found", "here", "left"] ["curve", "size", "number", "point"] (B_times F_times_0)
def F_times_2 : List Dt → Option Dt := runD ["curve", "size", "number", "point", "found", "here", "left"] ["curve", "size", "number", "point"] (B_times F_times_1)
abbrev F_times := F_times_2
def L_law_k13_1 : SF :=
  (sSet 7 (callF Pf.F_law_plus (aCons (getV 2) (aCons (getV 1) (aCons (getV 7) (aCons (getV 4) aNil))))))
def B_law_k13 : SF :=
  (sSeq (sSet 1 (e2 ixD (mkTup (aCons (cst (.int 5)) (aCons (cst (.int 7)) (aCons (cst (.int 11)) (aCons (cst (.int 13)) (aCons (cst (.int 17)) (aCons (cst (.int 19)) (aCons (cst (.int 23)) (aCons (cst (.int 29)) (aCons (cst (.int 31)) aNil)))))))))) (e2 modD (callS 0 Pf.F_law_mixed (aCons (cst (.int 0)) aNil)) (cst (.int 9)))))
    (sSeq (sSet 2 (callF Pf.F_law_curve (aCons (callS 0 Pf.F_law_mixed (aCons (cst (.int 1)) aNil)) (aCons (getV 1) aNil))))
    (sSeq (sSet 3 (callF Pf.F_law_points (aCons (getV 2) (aCons (getV 1) aNil))))
    (sSeq (sSet 4 (e2 ixD (getV 3) (e2 modD (callS 0 Pf.F_law_mixed (aCons (cst (.int 2)) aNil)) (callF lenD (aCons (getV 3) aNil)))))
    (sSeq (sSet 5 (e2 ixD (getV 3) (e2 modD (callS 0 Pf.F_law_mixed (aCons (cst (.int 3)) aNil)) (callF lenD (aCons (getV 3) aNil)))))
    (sSeq (sSet 6 (e2 modD (callS 0 Pf.F_law_mixed (aCons (cst (.int 4)) aNil)) (cst (.int 31))))
    (sSeq (sSet 7 (mkTup aNil))
    (sSeq (sFor (iF rng1D (aCons (getV 6) aNil)) (gSet 8)
    Pf.L_law_k13_1)
    (sSeq (sIf (tOrr (tB' (e2 neD (callF Pf.F_times (aCons (getV 2) (aCons (getV 1) (aCons (getV 6) (aCons (getV 4) aNil))))) (getV 7))) (tB' (e2 neD (callF Pf.F_times (aCons (getV 2) (aCons (getV 1) (aCons (e1 negD (getV 6)) (aCons (getV 4) aNil))))) (callF Pf.F_minus (aCons (getV 2) (aCons (getV 1) (aCons (getV 7) aNil)))))))
    (sRet (cst (.bool false))) sNil)
    (sSeq (sSet 9 (e2 subD (e2 modD (callS 0 Pf.F_law_cell_at (aCons (cst (.int 5)) aNil)) (e2 powD (cst (.int 10)) (cst (.int 31)))) (e2 powD (cst (.int 10)) (cst (.int 30)))))
    (sSeq (sSet 10 (e2 subD (e2 modD (callS 0 Pf.F_law_cell_at (aCons (cst (.int 6)) aNil)) (e2 powD (cst (.int 10)) (cst (.int 31)))) (e2 powD (cst (.int 10)) (cst (.int 30)))))
    (sSeq (sSet 11 (callF Pf.F_times (aCons (getV 2) (aCons (getV 1) (aCons (getV 9) (aCons (getV 4) aNil))))))
    (sSeq (sIf (tB' (e2 neD (callF Pf.F_times (aCons (getV 2) (aCons (getV 1) (aCons (e2 addD (getV 9) (getV 10)) (aCons (getV 4) aNil))))) (callF Pf.F_plus (aCons (getV 2) (aCons (getV 1) (aCons (getV 11) (aCons (callF Pf.F_times (aCons (getV 2) (aCons (getV 1) (aCons (getV 10) (aCons (getV 4) aNil))))) aNil)))))))
    (sRet (cst (.bool false))) sNil)
    (sSeq (sIf (tB' (e2 neD (callF Pf.F_times (aCons (getV 2) (aCons (getV 1) (aCons (e2 mulD (getV 9) (getV 10)) (aCons (getV 4) aNil))))) (callF Pf.F_times (aCons (getV 2) (aCons (getV 1) (aCons (getV 10) (aCons (getV 11) aNil)))))))
    (sRet (cst (.bool false))) sNil)
    (sSeq (sSet 12 (callF Pf.F_plus (aCons (getV 2) (aCons (getV 1) (aCons (getV 4) (aCons (getV 5) aNil))))))
    (sSeq (sIf (tB' (e2 neD (callF Pf.F_times (aCons (getV 2) (aCons (getV 1) (aCons (getV 9) (aCons (getV 12) aNil))))) (callF Pf.F_plus (aCons (getV 2) (aCons (getV 1) (aCons (getV 11) (aCons (callF Pf.F_times (aCons (getV 2) (aCons (getV 1) (aCons (getV 9) (aCons (getV 5) aNil))))) aNil)))))))
    (sRet (cst (.bool false))) sNil)
    (sRet (e2 eqD (callF Pf.F_times (aCons (getV 2) (aCons (getV 1) (aCons (callF lenD (aCons (getV 3) aNil)) (aCons (getV 4) aNil))))) (mkTup aNil)))))))))))))))))))
def F_law_k13 : List Int → List Dt → Option Dt := runS ["script", "size", "curve", "some", "one", "other", "small", "due", "k", "far", "more", "first", "both"] [] B_law_k13
def W_rounds_1 : TF :=
  (tB' (e2 neD (e2 ixD (getW 3) (e1 negD (cst (.int 1)))) (mkTup aNil)))
def L_rounds_1 : SF :=
  (sApp 3 (callF Pf.F_plus (aCons (getV 0) (aCons (getV 1) (aCons (e2 ixD (getW 3) (e1 negD (cst (.int 1)))) (aCons (getV 2) aNil))))))
def B_rounds : SF :=
  (sSeq (sSetO 3 (lim (aCons (getV 2) aNil)))
    (sSeq (whileL Pf.W_rounds_1
    Pf.L_rounds_1 100)
    (sRetO 3)))
def F_rounds : List Dt → Option Dt := runD ["curve", "size", "point", "found"] ["curve", "size", "point"] B_rounds
def B_order : SF :=
  (sRet (callF lenD (aCons (callF Pf.F_rounds (aCons (getV 0) (aCons (getV 1) (aCons (getV 2) aNil)))) aNil)))
def F_order : List Dt → Option Dt := runD ["curve", "size", "point"] ["curve", "size", "point"] B_order
def W_law_often_1 : TF :=
  (tB' (e2 neD (getV 4) (mkTup aNil)))
def L_law_often_1 : SF :=
  (sSeq (sApp 3 (getV 4))
    (sSet 4 (callF Pf.F_law_plus (aCons (getV 0) (aCons (getV 1) (aCons (getV 4) (aCons (getV 2) aNil)))))))
def B_law_often : SF :=
  (sSeq (sSetO 3 (lim (aCons (mkTup aNil) aNil)))
    (sSeq (sSet 4 (getV 2))
    (sSeq (whileL Pf.W_law_often_1
    Pf.L_law_often_1 100)
    (sRetO 3))))
def F_law_often : List Dt → Option Dt := runD ["curve", "size", "point", "found", "here"] ["curve", "size", "point"] B_law_often
def L_law_k20_1 : SF :=
  (sSeq (sSet 6 (callF Pf.F_order (aCons (getV 2) (aCons (getV 1) (aCons (getV 5) aNil)))))
    (sIf (tOrr (tB' (e1 isBool (getV 6))) (tOrr (tB' (e2 neD (getV 6) (callF lenD (aCons (callF Pf.F_law_often (aCons (getV 2) (aCons (getV 1) (aCons (getV 5) aNil)))) aNil)))) (tB' (e2 neD (e2 modD (getV 4) (getV 6)) (cst (.int 0))))))
    (sRet (cst (.bool false))) sNil))
def B_law_k20 : SF :=
  (sSeq (sSet 1 (e2 ixD (mkTup (aCons (cst (.int 5)) (aCons (cst (.int 7)) (aCons (cst (.int 11)) (aCons (cst (.int 13)) (aCons (cst (.int 17)) (aCons (cst (.int 19)) (aCons (cst (.int 23)) (aCons (cst (.int 29)) (aCons (cst (.int 31)) aNil)))))))))) (e2 modD (callS 0 Pf.F_law_mixed (aCons (cst (.int 0)) aNil)) (cst (.int 9)))))
    (sSeq (sSet 2 (callF Pf.F_law_curve (aCons (callS 0 Pf.F_law_mixed (aCons (cst (.int 1)) aNil)) (aCons (getV 1) aNil))))
    (sSeq (sSet 3 (callF Pf.F_law_points (aCons (getV 2) (aCons (getV 1) aNil))))
    (sSeq (sSet 4 (callF Pf.F_count (aCons (getV 2) (aCons (getV 1) aNil))))
    (sSeq (sIf (tOrr (tB' (e2 neD (getV 4) (callF lenD (aCons (getV 3) aNil)))) (tB' (e2 gtD (e2 mulD (e2 subD (e2 subD (getV 4) (getV 1)) (cst (.int 1))) (e2 subD (e2 subD (getV 4) (getV 1)) (cst (.int 1)))) (e2 mulD (cst (.int 4)) (getV 1)))))
    (sRet (cst (.bool false))) sNil)
    (sSeq (sFor (iSeq (getV 3)) (gSet 5)
    Pf.L_law_k20_1)
    (sRet (cst (.bool true)))))))))
def F_law_k20 : List Int → List Dt → Option Dt := runS ["script", "size", "curve", "some", "many", "point", "found"] [] B_law_k20
def W_primes_of_1 : TF :=
  (tB' (e2 eqD (e2 modD (getV 2) (getV 3)) (cst (.int 0))))
def L_primes_of_1 : SF :=
  (sSet 2 (e2 fdivD (getV 2) (getV 3)))
def W_primes_of_2 : TF :=
  (tB' (e2 gtD (getV 2) (cst (.int 1))))
def L_primes_of_2 : SF :=
  (sSeq (sIf (tB' (e2 eqD (e2 modD (getV 2) (getV 3)) (cst (.int 0))))
    (sApp 1 (getV 3)) sNil)
    (sSeq (whileL Pf.W_primes_of_1
    Pf.L_primes_of_1 400)
    (sSet 3 (e2 addD (getV 3) (cst (.int 1))))))
def B_primes_of : SF :=
  (sSeq (sSetO 1 (lim aNil))
    (sSeq (sSet 2 (getV 0))
    (sSeq (sSet 3 (cst (.int 2)))
    (sSeq (whileL Pf.W_primes_of_2
    Pf.L_primes_of_2 400)
    (sRet (callF tupleD (aCons (getW 1) aNil)))))))
def F_primes_of : List Dt → Option Dt := runD ["number", "found", "left", "part"] ["number"] B_primes_of
def B_order_paper : SF :=
  (sSeq (sSet 3 (callF Pf.F_order (aCons (getV 0) (aCons (getV 1) (aCons (getV 2) aNil)))))
    (sRet (mkTup (aCons (getV 3) (aCons (callF Pf.F_primes_of (aCons (getV 3) aNil)) aNil)))))
def F_order_paper : List Dt → Option Dt := runD ["curve", "size", "point", "found"] ["curve", "size", "point"] B_order_paper
def E_shows_order_1 : EF :=
  (e2 neD (callF Pf.F_times (aCons (getV 0) (aCons (getV 1) (aCons (e2 fdivD (e2 ixD (getV 3) (cst (.int 0))) (getV 4)) (aCons (getV 2) aNil))))) (mkTup aNil))
def E_shows_order_2 : EF :=
  (callF Pf.F_is_whole (aCons (getV 4) aNil))
def B_shows_order : SF :=
  (sSeq (sIf (tOrr (tNt (tB' (e1 isTuple (getV 3)))) (tOrr (tB' (e2 neD (callF lenD (aCons (getV 3) aNil)) (cst (.int 2)))) (tOrr (tNt (tB' (callF Pf.F_is_whole (aCons (e2 ixD (getV 3) (cst (.int 0))) aNil)))) (tNt (tB' (e1 isTuple (e2 ixD (getV 3) (cst (.int 1)))))))))
    (sRet (cst (.bool false))) sNil)
    (sSeq (sIf (tOrr (tNt (tB' (vChn leD leD (cst (.int 1)) (e2 ixD (getV 3) (cst (.int 0))) (e2 mulD (cst (.int 10)) (getV 1))))) (tNt (tB' (callF allD (aCons (lstF (lcF (iSeq (e2 ixD (getV 3) (cst (.int 1)))) [4] (gSet 4) tYesD Pf.E_shows_order_2)) aNil)))))
    (sRet (cst (.bool false))) sNil)
    (sSeq (sIf (tOrr (tB' (e2 neD (e2 ixD (getV 3) (cst (.int 1))) (callF Pf.F_primes_of (aCons (e2 ixD (getV 3) (cst (.int 0))) aNil)))) (tB' (e2 neD (callF Pf.F_times (aCons (getV 0) (aCons (getV 1) (aCons (e2 ixD (getV 3) (cst (.int 0))) (aCons (getV 2) aNil))))) (mkTup aNil))))
    (sRet (cst (.bool false))) sNil)
    (sRet (callF allD (aCons (lstF (lcF (iSeq (e2 ixD (getV 3) (cst (.int 1)))) [4] (gSet 4) tYesD Pf.E_shows_order_1)) aNil))))))
def F_shows_order : List Dt → Option Dt := runD ["curve", "size", "point", "thing", "part"] ["curve", "size", "point", "thing"] B_shows_order
def T_law_primes_1 : TF :=
  (tAn (tB' (e2 ltD (getV 3) (getV 2))) (tB' (e2 eqD (e2 modD (getV 2) (getV 3)) (cst (.int 0)))))
def E_law_primes_1 : EF :=
  (getV 3)
def T_law_primes_2 : TF :=
  (tB' (e2 eqD (lstF (lcF (iSeq (getV 1)) [3] (gSet 3) Pf.T_law_primes_1 Pf.E_law_primes_1)) (mkLst aNil)))
def E_law_primes_2 : EF :=
  (getV 2)
def T_law_primes_3 : TF :=
  (tB' (e2 eqD (e2 modD (getV 0) (getV 2)) (cst (.int 0))))
def E_law_primes_3 : EF :=
  (getV 2)
def B_law_primes : SF :=
  (sSeq (sSet 1 (lstF (lcF (iF rng2D (aCons (cst (.int 2)) (aCons (e2 addD (getV 0) (cst (.int 1))) aNil))) [2] (gSet 2) Pf.T_law_primes_3 Pf.E_law_primes_3)))
    (sRet (callF tupleD (aCons (lstF (lcF (iSeq (getV 1)) [2] (gSet 2) Pf.T_law_primes_2 Pf.E_law_primes_2)) aNil))))
def F_law_primes : List Dt → Option Dt := runD ["number", "some", "part", "less"] ["number"] B_law_primes
def T_law_shown_1 : TF :=
  (tB' (e1 isBool (getV 2)))
def E_law_shown_1 : EF :=
  (getV 2)
def B_law_shown : SF :=
  (sSeq (sIf (tOrr (tNt (tB' (e1 isTuple (getV 1)))) (tOrr (tB' (e2 neD (callF lenD (aCons (getV 1) aNil)) (cst (.int 2)))) (tOrr (tNt (tB' (e1 isInt (e2 ixD (getV 1) (cst (.int 0)))))) (tB' (e1 isBool (e2 ixD (getV 1) (cst (.int 0))))))))
    (sRet (cst (.bool false))) sNil)
    (sSeq (sIf (tOrr (tNt (tB' (e1 isTuple (e2 ixD (getV 1) (cst (.int 1)))))) (tB' (e2 neD (lstF (lcF (iSeq (e2 ixD (getV 1) (cst (.int 1)))) [2] (gSet 2) Pf.T_law_shown_1 Pf.E_law_shown_1)) (mkLst aNil))))
    (sRet (cst (.bool false))) sNil)
    (sRet (vAn (e2 eqD (e2 ixD (getV 1) (cst (.int 0))) (getV 0)) (e2 eqD (e2 ixD (getV 1) (cst (.int 1))) (callF Pf.F_law_primes (aCons (getV 0) aNil)))))))
def F_law_shown : List Dt → Option Dt := runD ["often", "thing", "part"] ["often", "thing"] B_law_shown
def B_law_k21 : SF :=
  (sSeq (sSet 1 (e2 ixD (mkTup (aCons (cst (.int 5)) (aCons (cst (.int 7)) (aCons (cst (.int 11)) (aCons (cst (.int 13)) (aCons (cst (.int 17)) (aCons (cst (.int 19)) (aCons (cst (.int 23)) (aCons (cst (.int 29)) (aCons (cst (.int 31)) aNil)))))))))) (e2 modD (callS 0 Pf.F_law_mixed (aCons (cst (.int 0)) aNil)) (cst (.int 9)))))
    (sSeq (sSet 2 (callF Pf.F_law_curve (aCons (callS 0 Pf.F_law_mixed (aCons (cst (.int 1)) aNil)) (aCons (getV 1) aNil))))
    (sSeq (sSet 3 (callF Pf.F_law_points (aCons (getV 2) (aCons (getV 1) aNil))))
    (sSeq (sSet 4 (e2 ixD (getV 3) (e2 modD (callS 0 Pf.F_law_mixed (aCons (cst (.int 2)) aNil)) (callF lenD (aCons (getV 3) aNil)))))
    (sSeq (sSet 5 (callF lenD (aCons (callF Pf.F_law_often (aCons (getV 2) (aCons (getV 1) (aCons (getV 4) aNil)))) aNil)))
    (sSeq (sSet 6 (callF Pf.F_order_paper (aCons (getV 2) (aCons (getV 1) (aCons (getV 4) aNil)))))
    (sSeq (sIf (tOrr (tB' (e2 neD (getV 6) (mkTup (aCons (getV 5) (aCons (callF Pf.F_law_primes (aCons (getV 5) aNil)) aNil))))) (tNt (tB' (callF Pf.F_law_shown (aCons (getV 5) (aCons (getV 6) aNil))))))
    (sRet (cst (.bool false))) sNil)
    (sSeq (sSet 7 (callS 0 Pf.F_law_mixed (aCons (cst (.int 3)) aNil)))
    (sSeq (sIf (tB' (e2 eqD (e2 modD (getV 7) (cst (.int 2))) (cst (.int 1))))
    (sSet 6 (callF Pf.F_law_spoilt (aCons (getV 6) (aCons (callS 0 Pf.F_law_mixed (aCons (cst (.int 4)) aNil)) (aCons (e2 modD (e2 fdivD (getV 7) (cst (.int 2))) (cst (.int 3))) aNil))))) sNil)
    (sSeq (sIf (tB' (e2 eqD (e2 modD (getV 7) (cst (.int 8))) (cst (.int 2))))
    (sSeq (sSet 10 (e2 mulD (getV 5) (e2 addD (cst (.int 1)) (e2 modD (e2 fdivD (getV 7) (cst (.int 8))) (cst (.int 6))))))
    (sSet 6 (mkTup (aCons (getV 10) (aCons (callF Pf.F_law_primes (aCons (getV 10) aNil)) aNil))))) sNil)
    (sSeq (sSet 8 (callF Pf.F_shows_order (aCons (getV 2) (aCons (getV 1) (aCons (getV 4) (aCons (getV 6) aNil))))))
    (sSeq (sIf (tOrr (tNt (tB' (e1 isBool (getV 8)))) (tB' (e2 neD (getV 8) (callF Pf.F_law_shown (aCons (getV 5) (aCons (getV 6) aNil))))))
    (sRet (cst (.bool false))) sNil)
    (sSeq (sSet 9 (e2 ixD (getV 3) (e2 modD (e2 fdivD (getV 7) (cst (.int 64))) (callF lenD (aCons (getV 3) aNil)))))
    (sSeq (sSet 8 (callF Pf.F_shows_order (aCons (getV 2) (aCons (getV 1) (aCons (getV 9) (aCons (getV 6) aNil))))))
    (sRet (vAn (e1 isBool (getV 8)) (e2 eqD (getV 8) (callF Pf.F_law_shown (aCons (callF lenD (aCons (callF Pf.F_law_often (aCons (getV 2) (aCons (getV 1) (aCons (getV 9) aNil)))) aNil)) (aCons (getV 6) aNil))))))))))))))))))))
def F_law_k21 : List Int → List Dt → Option Dt := runS ["script", "size", "curve", "some", "point", "often", "thing", "number", "found", "other", "more"] [] B_law_k21
def B_steps : SF :=
  (sSeq (sIf (tB' (e2 eqD (getV 3) (mkTup aNil)))
    (sRet (cst (.int 0))) sNil)
    (sSeq (sSet 4 (callF Pf.F_rounds (aCons (getV 0) (aCons (getV 1) (aCons (getV 2) aNil)))))
    (sSeq (sIf (tB' (e2 notInD (getV 3) (getV 4)))
    (sRet (cst .none)) sNil)
    (sRet (e2 addD (methF indexD (getV 4) (aCons (getV 3) aNil)) (cst (.int 1)))))))
def F_steps : List Dt → Option Dt := runD ["curve", "size", "base", "point", "some"] ["curve", "size", "base", "point"] B_steps
def L_law_k22_1 : SF :=
  (sSeq (sSet 8 (callF Pf.F_steps (aCons (getV 2) (aCons (getV 1) (aCons (getV 4) (aCons (getV 6) aNil))))))
    (sIf (tOrr (tB' (e1 isBool (getV 8))) (tB' (e2 neD (getV 8) (e2 ixD (vIf (tB' (e2 inD (getV 6) (getV 5))) (mkLst (aCons (methF indexD (getV 5) (aCons (getV 6) aNil)) aNil)) (mkLst (aCons (cst .none) aNil))) (cst (.int 0))))))
    (sRet (cst (.bool false))) sNil))
def B_law_k22 : SF :=
  (sSeq (sSet 1 (e2 ixD (mkTup (aCons (cst (.int 5)) (aCons (cst (.int 7)) (aCons (cst (.int 11)) (aCons (cst (.int 13)) (aCons (cst (.int 17)) (aCons (cst (.int 19)) (aCons (cst (.int 23)) (aCons (cst (.int 29)) (aCons (cst (.int 31)) aNil)))))))))) (e2 modD (callS 0 Pf.F_law_mixed (aCons (cst (.int 0)) aNil)) (cst (.int 9)))))
    (sSeq (sSet 2 (callF Pf.F_law_curve (aCons (callS 0 Pf.F_law_mixed (aCons (cst (.int 1)) aNil)) (aCons (getV 1) aNil))))
    (sSeq (sSet 3 (callF Pf.F_law_points (aCons (getV 2) (aCons (getV 1) aNil))))
    (sSeq (sSet 4 (e2 ixD (getV 3) (e2 modD (callS 0 Pf.F_law_mixed (aCons (cst (.int 2)) aNil)) (callF lenD (aCons (getV 3) aNil)))))
    (sSeq (sSet 5 (callF Pf.F_law_often (aCons (getV 2) (aCons (getV 1) (aCons (getV 4) aNil)))))
    (sSeq (sFor (iSeq (getV 3)) (gSet 6)
    Pf.L_law_k22_1)
    (sSeq (sSet 7 (e2 modD (callS 0 Pf.F_law_cell_at (aCons (cst (.int 3)) aNil)) (e2 powD (cst (.int 10)) (cst (.int 30)))))
    (sRet (e2 eqD (callF Pf.F_steps (aCons (getV 2) (aCons (getV 1) (aCons (getV 4) (aCons (callF Pf.F_times (aCons (getV 2) (aCons (getV 1) (aCons (getV 7) (aCons (getV 4) aNil))))) aNil))))) (e2 modD (getV 7) (callF Pf.F_order (aCons (getV 2) (aCons (getV 1) (aCons (getV 4) aNil))))))))))))))
def F_law_k22 : List Int → List Dt → Option Dt := runS ["script", "size", "curve", "some", "base", "often", "point", "far", "found"] [] B_law_k22
def L_made_by_1 : SF :=
  (sApp 4 (callF Pf.F_plus (aCons (getV 0) (aCons (getV 1) (aCons (getV 5) (aCons (getV 6) aNil))))))
def L_made_by_2 : SF :=
  (sFor (iSeq (callF Pf.F_rounds (aCons (getV 0) (aCons (getV 1) (aCons (getV 3) aNil))))) (gSet 6)
    Pf.L_made_by_1)
def B_made_by : SF :=
  (sSeq (sSetO 4 (lim aNil))
    (sSeq (sFor (iSeq (callF Pf.F_rounds (aCons (getV 0) (aCons (getV 1) (aCons (getV 2) aNil))))) (gSet 5)
    Pf.L_made_by_2)
    (sRetO 4)))
def F_made_by : List Dt → Option Dt := runD ["curve", "size", "one", "other", "found", "first", "second"] ["curve", "size", "one", "other"] B_made_by
def L_form_of_1 : SF :=
  (sIf (tAn (tB' (e2 eqD (getV 8) (getV 6))) (tB' (e2 eqD (e1 lenSetD (callF Pf.F_made_by (aCons (getV 0) (aCons (getV 1) (aCons (getV 7) (aCons (getV 5) aNil)))))) (callF lenD (aCons (getV 2) aNil)))))
    (sRet (mkTup (aCons (getV 6) (aCons (getV 4) (aCons (getV 7) (aCons (getV 5) aNil)))))) sNil)
def E_form_of_1 : EF :=
  (callF Pf.F_order (aCons (getV 0) (aCons (getV 1) (aCons (getV 9) aNil))))
def B_form_of : SF :=
  (sSeq (sSet 3 (lstF (lcF (iSeq (getV 2)) [9] (gSet 9) tYesD Pf.E_form_of_1)))
    (sSeq (sSet 4 (callF maxD (aCons (getV 3) aNil)))
    (sSeq (sSet 5 (e2 ixD (getV 2) (methF indexD (getV 3) (aCons (getV 4) aNil))))
    (sSeq (sSet 6 (e2 fdivD (callF lenD (aCons (getV 2) aNil)) (getV 4)))
    (sSeq (sFor (iF zipD (aCons (getV 2) (aCons (getV 3) aNil))) (gTupD [7, 8])
    Pf.L_form_of_1)
    (sRet (cst .none)))))))
def F_form_of : List Dt → Option Dt := runD ["curve", "size", "some", "orders", "great", "other", "small", "one", "many", "point"] ["curve", "size", "some"] B_form_of
def B_form : SF :=
  (sRet (callF Pf.F_form_of (aCons (getV 0) (aCons (getV 1) (aCons (callF Pf.F_points (aCons (getV 0) (aCons (getV 1) aNil))) aNil)))))
def F_form : List Dt → Option Dt := runD ["curve", "size"] ["curve", "size"] B_form
def B_shows_form : SF :=
  (sSeq (sIf (tOrr (tNt (tB' (e1 isTuple (getV 2)))) (tOrr (tB' (e2 neD (callF lenD (aCons (getV 2) aNil)) (cst (.int 4)))) (tOrr (tNt (tB' (callF Pf.F_is_whole (aCons (e2 ixD (getV 2) (cst (.int 0))) aNil)))) (tNt (tB' (callF Pf.F_is_whole (aCons (e2 ixD (getV 2) (cst (.int 1))) aNil)))))))
    (sRet (cst (.bool false))) sNil)
    (sSeq (sIf (tOrr (tB' (e2 ltD (e2 ixD (getV 2) (cst (.int 0))) (cst (.int 1)))) (tOrr (tB' (e2 ltD (e2 ixD (getV 2) (cst (.int 1))) (cst (.int 1)))) (tOrr (tB' (e2 neD (e2 modD (e2 ixD (getV 2) (cst (.int 1))) (e2 ixD (getV 2) (cst (.int 0)))) (cst (.int 0)))) (tB' (e2 neD (e2 mulD (e2 ixD (getV 2) (cst (.int 0))) (e2 ixD (getV 2) (cst (.int 1)))) (callF Pf.F_count (aCons (getV 0) (aCons (getV 1) aNil))))))))
    (sRet (cst (.bool false))) sNil)
    (sSeq (sIf (tOrr (tNt (tB' (callF Pf.F_is_point (aCons (e2 ixD (getV 2) (cst (.int 2))) (aCons (getV 0) (aCons (getV 1) aNil)))))) (tNt (tB' (callF Pf.F_is_point (aCons (e2 ixD (getV 2) (cst (.int 3))) (aCons (getV 0) (aCons (getV 1) aNil)))))))
    (sRet (cst (.bool false))) sNil)
    (sSeq (sIf (tOrr (tB' (e2 neD (callF Pf.F_order (aCons (getV 0) (aCons (getV 1) (aCons (e2 ixD (getV 2) (cst (.int 2))) aNil)))) (e2 ixD (getV 2) (cst (.int 0))))) (tB' (e2 neD (callF Pf.F_order (aCons (getV 0) (aCons (getV 1) (aCons (e2 ixD (getV 2) (cst (.int 3))) aNil)))) (e2 ixD (getV 2) (cst (.int 1))))))
    (sRet (cst (.bool false))) sNil)
    (sRet (e2 eqD (e1 lenSetD (callF Pf.F_made_by (aCons (getV 0) (aCons (getV 1) (aCons (e2 ixD (getV 2) (cst (.int 2))) (aCons (e2 ixD (getV 2) (cst (.int 3))) aNil)))))) (e2 mulD (e2 ixD (getV 2) (cst (.int 0))) (e2 ixD (getV 2) (cst (.int 1))))))))))
def F_shows_form : List Dt → Option Dt := runD ["curve", "size", "thing"] ["curve", "size", "thing"] B_shows_form
def T_law_k30_1 : TF :=
  (tB' (e2 neD (callF Pf.F_times (aCons (getV 2) (aCons (getV 1) (aCons (getV 10) (aCons (getV 13) aNil))))) (mkTup aNil)))
def E_law_k30_1 : EF :=
  (getV 13)
def E_law_k30_2 : EF :=
  (callF Pf.F_law_plus (aCons (getV 2) (aCons (getV 1) (aCons (getV 8) (aCons (getV 14) aNil)))))
def L_law_k30_1 : SF :=
  (sSet 7 (e2 addD (getV 7) (lstF (lcF (iSeq (getV 6)) [14] (gSet 14) tYesD Pf.E_law_k30_2))))
def B_law_k30 : SF :=
  (sSeq (sSet 1 (e2 ixD (mkTup (aCons (cst (.int 5)) (aCons (cst (.int 7)) (aCons (cst (.int 11)) (aCons (cst (.int 13)) (aCons (cst (.int 17)) (aCons (cst (.int 19)) (aCons (cst (.int 23)) (aCons (cst (.int 29)) (aCons (cst (.int 31)) aNil)))))))))) (e2 modD (callS 0 Pf.F_law_mixed (aCons (cst (.int 0)) aNil)) (cst (.int 9)))))
    (sSeq (sSet 2 (callF Pf.F_law_curve (aCons (callS 0 Pf.F_law_mixed (aCons (cst (.int 1)) aNil)) (aCons (getV 1) aNil))))
    (sSeq (sSet 3 (callF Pf.F_law_points (aCons (getV 2) (aCons (getV 1) aNil))))
    (sSeq (sSet 4 (callF Pf.F_form (aCons (getV 2) (aCons (getV 1) aNil))))
    (sSeq (sIf (tOrr (tNt (tB' (e1 isTuple (getV 4)))) (tOrr (tB' (e2 neD (callF lenD (aCons (getV 4) aNil)) (cst (.int 4)))) (tB' (e2 notBD (callF Pf.F_shows_form (aCons (getV 2) (aCons (getV 1) (aCons (getV 4) aNil)))) (cst (.bool true))))))
    (sRet (cst (.bool false))) sNil)
    (sSeq (sAsg (gTupD [9, 10, 11, 12]) (getV 4))
    (sSeq (sIf (tOrr (tB' (e1 isBool (getV 9))) (tOrr (tB' (e1 isBool (getV 10))) (tOrr (tB' (e2 notInD (getV 11) (getV 3))) (tB' (e2 notInD (getV 12) (getV 3))))))
    (sRet (cst (.bool false))) sNil)
    (sSeq (sSet 5 (callF Pf.F_law_often (aCons (getV 2) (aCons (getV 1) (aCons (getV 11) aNil)))))
    (sSeq (sSet 6 (callF Pf.F_law_often (aCons (getV 2) (aCons (getV 1) (aCons (getV 12) aNil)))))
    (sSeq (sIf (tOrr (tB' (e2 neD (callF lenD (aCons (getV 5) aNil)) (getV 9))) (tOrr (tB' (e2 neD (callF lenD (aCons (getV 6) aNil)) (getV 10))) (tOrr (tB' (e2 neD (e2 modD (getV 10) (getV 9)) (cst (.int 0)))) (tB' (e2 neD (e2 modD (e2 subD (getV 1) (cst (.int 1))) (getV 9)) (cst (.int 0)))))))
    (sRet (cst (.bool false))) sNil)
    (sSeq (sSet 7 (mkLst aNil))
    (sSeq (sFor (iSeq (getV 5)) (gSet 8)
    Pf.L_law_k30_1)
    (sSeq (sIf (tOrr (tB' (e2 neD (callF lenD (aCons (getV 7) aNil)) (callF lenD (aCons (getV 3) aNil)))) (tB' (e2 neD (e1 lenSetD (getV 7)) (callF lenD (aCons (getV 3) aNil)))))
    (sRet (cst (.bool false))) sNil)
    (sRet (e2 eqD (lstF (lcF (iSeq (getV 3)) [13] (gSet 13) Pf.T_law_k30_1 Pf.E_law_k30_1)) (mkLst aNil))))))))))))))))
def F_law_k30 : List Int → List Dt → Option Dt := runS ["script", "size", "curve", "some", "found", "firsts", "seconds", "made", "first", "small", "great", "one", "other", "point", "second"] [] B_law_k30
def E_law_shown_k31_1 : EF :=
  (callF Pf.F_law_plus (aCons (getV 0) (aCons (getV 1) (aCons (getV 9) (aCons (getV 10) aNil)))))
def L_law_shown_k31_1 : SF :=
  (sSet 8 (e2 addD (getV 8) (lstF (lcF (iSeq (getV 7)) [10] (gSet 10) tYesD Pf.E_law_shown_k31_1))))
def T_law_shown_k31_1 : TF :=
  (tB' (e1 isBool (getV 4)))
def E_law_shown_k31_2 : EF :=
  (getV 4)
def L_law_shown_k31_2 : SF :=
  (sSeq (sIf (tOrr (tNt (tB' (e1 isTuple (getV 5)))) (tB' (e2 notInD (getV 5) (getV 2))))
    (sRet (cst (.bool false))) sNil)
    (sIf (tB' (e2 neD (lstF (lcF (iSeq (getV 5)) [4] (gSet 4) Pf.T_law_shown_k31_1 Pf.E_law_shown_k31_2)) (mkLst aNil)))
    (sRet (cst (.bool false))) sNil))
def L_law_shown_k31_3 : SF :=
  (sIf (tOrr (tNt (tB' (e1 isInt (getV 4)))) (tOrr (tB' (e1 isBool (getV 4))) (tNt (tB' (vChn leD leD (cst (.int 1)) (getV 4) (callF lenD (aCons (getV 2) aNil)))))))
    (sRet (cst (.bool false))) sNil)
def B_law_shown_k31 : SF :=
  (sSeq (sIf (tOrr (tNt (tB' (e1 isTuple (getV 3)))) (tB' (e2 neD (callF lenD (aCons (getV 3) aNil)) (cst (.int 4)))))
    (sRet (cst (.bool false))) sNil)
    (sSeq (sFor (iSeq (slcF (getV 3) oNo (oSo (cst (.int 2))))) (gSet 4)
    Pf.L_law_shown_k31_3)
    (sSeq (sFor (iSeq (slcF (getV 3) (oSo (cst (.int 2))) oNo)) (gSet 5)
    Pf.L_law_shown_k31_2)
    (sSeq (sIf (tB' (e2 neD (e2 modD (e2 ixD (getV 3) (cst (.int 1))) (e2 ixD (getV 3) (cst (.int 0)))) (cst (.int 0))))
    (sRet (cst (.bool false))) sNil)
    (sSeq (sSet 6 (callF Pf.F_law_often (aCons (getV 0) (aCons (getV 1) (aCons (e2 ixD (getV 3) (cst (.int 2))) aNil)))))
    (sSeq (sSet 7 (callF Pf.F_law_often (aCons (getV 0) (aCons (getV 1) (aCons (e2 ixD (getV 3) (cst (.int 3))) aNil)))))
    (sSeq (sIf (tOrr (tB' (e2 neD (callF lenD (aCons (getV 6) aNil)) (e2 ixD (getV 3) (cst (.int 0))))) (tB' (e2 neD (callF lenD (aCons (getV 7) aNil)) (e2 ixD (getV 3) (cst (.int 1))))))
    (sRet (cst (.bool false))) sNil)
    (sSeq (sSet 8 (mkLst aNil))
    (sSeq (sFor (iSeq (getV 6)) (gSet 9)
    Pf.L_law_shown_k31_1)
    (sRet (vAn (e2 eqD (callF lenD (aCons (getV 8) aNil)) (callF lenD (aCons (getV 2) aNil))) (e2 eqD (e1 lenSetD (getV 8)) (callF lenD (aCons (getV 2) aNil))))))))))))))
def F_law_shown_k31 : List Dt → Option Dt := runD ["curve", "size", "some", "thing", "part", "point", "firsts", "seconds", "made", "first", "second"] ["curve", "size", "some", "thing"] B_law_shown_k31
def B_law_k31 : SF :=
  (sSeq (sSet 1 (e2 ixD (mkTup (aCons (cst (.int 5)) (aCons (cst (.int 7)) (aCons (cst (.int 11)) (aCons (cst (.int 13)) (aCons (cst (.int 17)) (aCons (cst (.int 19)) (aCons (cst (.int 23)) (aCons (cst (.int 29)) (aCons (cst (.int 31)) aNil)))))))))) (e2 modD (callS 0 Pf.F_law_mixed (aCons (cst (.int 0)) aNil)) (cst (.int 9)))))
    (sSeq (sSet 2 (callF Pf.F_law_curve (aCons (callS 0 Pf.F_law_mixed (aCons (cst (.int 1)) aNil)) (aCons (getV 1) aNil))))
    (sSeq (sSet 3 (callF Pf.F_law_points (aCons (getV 2) (aCons (getV 1) aNil))))
    (sSeq (sSet 4 (callF Pf.F_form (aCons (getV 2) (aCons (getV 1) aNil))))
    (sSeq (sSet 5 (callS 0 Pf.F_law_mixed (aCons (cst (.int 2)) aNil)))
    (sSeq (sIf (tB' (e2 eqD (e2 modD (getV 5) (cst (.int 2))) (cst (.int 1))))
    (sSet 4 (callF Pf.F_law_spoilt (aCons (getV 4) (aCons (callS 0 Pf.F_law_mixed (aCons (cst (.int 3)) aNil)) (aCons (e2 modD (e2 fdivD (getV 5) (cst (.int 2))) (cst (.int 3))) aNil))))) sNil)
    (sSeq (sIf (tB' (e2 eqD (e2 modD (getV 5) (cst (.int 4))) (cst (.int 2))))
    (sSeq (sSet 7 (e2 ixD (getV 3) (e2 modD (e2 fdivD (getV 5) (cst (.int 4))) (callF lenD (aCons (getV 3) aNil)))))
    (sSeq (sSet 8 (e2 ixD (getV 3) (e2 modD (e2 fdivD (getV 5) (cst (.int 256))) (callF lenD (aCons (getV 3) aNil)))))
    (sSeq (sSet 9 (mkLst (aCons (callF lenD (aCons (callF Pf.F_law_often (aCons (getV 2) (aCons (getV 1) (aCons (getV 7) aNil)))) aNil)) (aCons (callF lenD (aCons (callF Pf.F_law_often (aCons (getV 2) (aCons (getV 1) (aCons (getV 8) aNil)))) aNil)) aNil))))
    (sSeq (sSet 4 (mkTup (aCons (mkTup (aCons (e2 ixD (getV 9) (cst (.int 0))) (aCons (e2 ixD (getV 9) (cst (.int 1))) (aCons (getV 7) (aCons (getV 8) aNil))))) (aCons (mkTup (aCons (cst (.int 1)) (aCons (e2 ixD (getV 9) (cst (.int 1))) (aCons (mkTup aNil) (aCons (getV 8) aNil))))) (aCons (mkTup (aCons (e2 ixD (getV 4) (cst (.int 0))) (aCons (e2 ixD (getV 4) (cst (.int 1))) (aCons (getV 7) (aCons (getV 8) aNil))))) aNil)))))
    (sSet 4 (e2 ixD (getV 4) (e2 modD (e2 fdivD (getV 5) (cst (.int 16384))) (cst (.int 3))))))))) sNil)
    (sSeq (sSet 6 (callF Pf.F_shows_form (aCons (getV 2) (aCons (getV 1) (aCons (getV 4) aNil)))))
    (sRet (vAn (e1 isBool (getV 6)) (e2 eqD (getV 6) (callF Pf.F_law_shown_k31 (aCons (getV 2) (aCons (getV 1) (aCons (getV 3) (aCons (getV 4) aNil))))))))))))))))
def F_law_k31 : List Int → List Dt → Option Dt := runS ["script", "size", "curve", "some", "thing", "number", "found", "one", "other", "orders"] [] B_law_k31
def T_held_1 : TF :=
  (tB' (e2 eqD (callF Pf.F_times (aCons (getV 0) (aCons (getV 1) (aCons (getV 2) (aCons (getV 3) aNil))))) (mkTup aNil)))
def E_held_1 : EF :=
  (getV 3)
def B_held : SF :=
  (sRet (callF tupleD (aCons (lstF (lcF (iSeq (callF Pf.F_points (aCons (getV 0) (aCons (getV 1) aNil)))) [3] (gSet 3) Pf.T_held_1 Pf.E_held_1)) aNil)))
def F_held : List Dt → Option Dt := runD ["curve", "size", "number", "point"] ["curve", "size", "number"] B_held
def B_moved : SF :=
  (sRet (mkTup (aCons (e2 modD (e2 mulD (callF Pf.F_power (aCons (getV 2) (aCons (cst (.int 4)) (aCons (getV 1) aNil)))) (e2 ixD (getV 0) (cst (.int 0)))) (getV 1)) (aCons (e2 modD (e2 mulD (callF Pf.F_power (aCons (getV 2) (aCons (cst (.int 6)) (aCons (getV 1) aNil)))) (e2 ixD (getV 0) (cst (.int 1)))) (getV 1)) aNil))))
def F_moved : List Dt → Option Dt := runD ["curve", "size", "u"] ["curve", "size", "u"] B_moved
def L_alike_1 : SF :=
  (sIf (tB' (e2 eqD (callF Pf.F_moved (aCons (getV 0) (aCons (getV 2) (aCons (getV 3) aNil)))) (getV 1)))
    (sRet (getV 3)) sNil)
def B_alike : SF :=
  (sSeq (sFor (iF rng2D (aCons (cst (.int 1)) (aCons (getV 2) aNil))) (gSet 3)
    Pf.L_alike_1)
    (sRet (cst .none)))
def F_alike : List Dt → Option Dt := runD ["one", "other", "size", "u"] ["one", "other", "size"] B_alike
def B_mark : SF :=
  (sSeq (sSet 2 (e2 modD (e2 mulD (cst (.int 4)) (callF Pf.F_power (aCons (e2 ixD (getV 0) (cst (.int 0))) (aCons (cst (.int 3)) (aCons (getV 1) aNil))))) (getV 1)))
    (sRet (e2 modD (e2 mulD (getV 2) (callF Pf.F_inverse (aCons (e2 modD (e2 addD (getV 2) (e2 mulD (cst (.int 27)) (callF Pf.F_power (aCons (e2 ixD (getV 0) (cst (.int 1))) (aCons (cst (.int 2)) (aCons (getV 1) aNil)))))) (getV 1)) (aCons (getV 1) aNil)))) (getV 1))))
def F_mark : List Dt → Option Dt := runD ["curve", "size", "top"] ["curve", "size"] B_mark
def B_law_moved : SF :=
  (sRet (mkTup (aCons (e2 modD (e2 mulD (e2 mulD (e2 mulD (e2 mulD (getV 2) (getV 2)) (getV 2)) (getV 2)) (e2 ixD (getV 0) (cst (.int 0)))) (getV 1)) (aCons (e2 modD (e2 mulD (e2 mulD (e2 mulD (e2 mulD (e2 mulD (e2 mulD (getV 2) (getV 2)) (getV 2)) (getV 2)) (getV 2)) (getV 2)) (e2 ixD (getV 0) (cst (.int 1)))) (getV 1)) aNil))))
def F_law_moved : List Dt → Option Dt := runD ["curve", "size", "u"] ["curve", "size", "u"] B_law_moved
def T_other_half_1 : TF :=
  (tB' (e2 isND (callF Pf.F_root (aCons (getV 3) (aCons (getV 1) aNil))) (cst .none)))
def E_other_half_1 : EF :=
  (getV 3)
def B_other_half : SF :=
  (sSeq (sSet 2 (e2 ixD (lstF (lcF (iF rng2D (aCons (cst (.int 1)) (aCons (getV 1) aNil))) [3] (gSet 3) Pf.T_other_half_1 Pf.E_other_half_1)) (cst (.int 0))))
    (sRet (mkTup (aCons (e2 modD (e2 mulD (e2 mulD (getV 2) (getV 2)) (e2 ixD (getV 0) (cst (.int 0)))) (getV 1)) (aCons (e2 modD (e2 mulD (e2 mulD (e2 mulD (getV 2) (getV 2)) (getV 2)) (e2 ixD (getV 0) (cst (.int 1)))) (getV 1)) aNil)))))
def F_other_half : List Dt → Option Dt := runD ["curve", "size", "d", "number"] ["curve", "size"] B_other_half
def T_own_maps_1 : TF :=
  (tB' (e2 eqD (callF Pf.F_moved (aCons (getV 0) (aCons (getV 1) (aCons (getV 2) aNil)))) (getV 0)))
def E_own_maps_1 : EF :=
  (getV 2)
def B_own_maps : SF :=
  (sRet (callF tupleD (aCons (lstF (lcF (iF rng2D (aCons (cst (.int 1)) (aCons (getV 1) aNil))) [2] (gSet 2) Pf.T_own_maps_1 Pf.E_own_maps_1)) aNil)))
def F_own_maps : List Dt → Option Dt := runD ["curve", "size", "u"] ["curve", "size"] B_own_maps
def B_carried : SF :=
  (sSeq (sIf (tB' (e2 eqD (getV 1) (mkTup aNil)))
    (sRet (mkTup aNil)) sNil)
    (sRet (mkTup (aCons (e2 modD (e2 mulD (e2 mulD (getV 2) (getV 2)) (e2 ixD (getV 1) (cst (.int 0)))) (getV 0)) (aCons (e2 modD (e2 mulD (e2 mulD (e2 mulD (getV 2) (getV 2)) (getV 2)) (e2 ixD (getV 1) (cst (.int 1)))) (getV 0)) aNil)))))
def F_carried : List Dt → Option Dt := runD ["size", "point", "u"] ["size", "point", "u"] B_carried
def T_law_alike_1 : TF :=
  (tB' (e2 eqD (callF Pf.F_law_moved (aCons (getV 0) (aCons (getV 2) (aCons (getV 4) aNil)))) (getV 1)))
def E_law_alike_1 : EF :=
  (getV 4)
def B_law_alike : SF :=
  (sSeq (sSet 3 (lstF (lcF (iF rng2D (aCons (cst (.int 1)) (aCons (getV 2) aNil))) [4] (gSet 4) Pf.T_law_alike_1 Pf.E_law_alike_1)))
    (sRet (e2 ixD (e2 addD (getV 3) (mkLst (aCons (cst .none) aNil))) (cst (.int 0)))))
def F_law_alike : List Dt → Option Dt := runD ["one", "other", "size", "found", "u"] ["one", "other", "size"] B_law_alike
def L_law_k40_1 : SF :=
  (sIf (tB' (e2 neD (callF Pf.F_carried (aCons (getV 1) (aCons (getV 10) (aCons (getV 5) aNil)))) (mkTup (aCons (e2 modD (e2 mulD (e2 mulD (getV 5) (getV 5)) (e2 ixD (getV 10) (cst (.int 0)))) (getV 1)) (aCons (e2 modD (e2 mulD (e2 mulD (e2 mulD (getV 5) (getV 5)) (getV 5)) (e2 ixD (getV 10) (cst (.int 1)))) (getV 1)) aNil)))))
    (sRet (cst (.bool false))) sNil)
def T_law_k40_1 : TF :=
  (tB' (e2 eqD (callF Pf.F_law_moved (aCons (getV 2) (aCons (getV 1) (aCons (getV 11) aNil)))) (getV 2)))
def E_law_k40_1 : EF :=
  (getV 11)
def T_law_k40_2 : TF :=
  (tB' (e2 eqD (e2 modD (e2 mulD (getV 12) (getV 12)) (getV 1)) (getV 11)))
def E_law_k40_2 : EF :=
  (getV 12)
def T_law_k40_3 : TF :=
  (tB' (e2 eqD (lstF (lcF (iF rng1D (aCons (getV 1) aNil)) [12] (gSet 12) Pf.T_law_k40_2 Pf.E_law_k40_2)) (mkLst aNil)))
def E_law_k40_3 : EF :=
  (getV 11)
def B_law_k40 : SF :=
  (sSeq (sSet 1 (e2 ixD (mkTup (aCons (cst (.int 5)) (aCons (cst (.int 7)) (aCons (cst (.int 11)) (aCons (cst (.int 13)) (aCons (cst (.int 17)) (aCons (cst (.int 19)) (aCons (cst (.int 23)) (aCons (cst (.int 29)) (aCons (cst (.int 31)) aNil)))))))))) (e2 modD (callS 0 Pf.F_law_mixed (aCons (cst (.int 0)) aNil)) (cst (.int 9)))))
    (sSeq (sSet 2 (callF Pf.F_law_curve (aCons (callS 0 Pf.F_law_mixed (aCons (cst (.int 1)) aNil)) (aCons (getV 1) aNil))))
    (sSeq (sSet 3 (callS 0 Pf.F_law_mixed (aCons (cst (.int 2)) aNil)))
    (sSeq (sSet 4 (callF Pf.F_law_curve (aCons (callS 0 Pf.F_law_mixed (aCons (cst (.int 3)) aNil)) (aCons (getV 1) aNil))))
    (sSeq (sSet 5 (e2 addD (cst (.int 1)) (e2 modD (e2 fdivD (getV 3) (cst (.int 4))) (e2 subD (getV 1) (cst (.int 1))))))
    (sSeq (sIf (tB' (e2 gtD (e2 modD (getV 3) (cst (.int 4))) (cst (.int 1))))
    (sSet 4 (callF Pf.F_law_moved (aCons (getV 2) (aCons (getV 1) (aCons (getV 5) aNil))))) sNil)
    (sSeq (sSet 6 (e2 ixD (lstF (lcF (iF rng2D (aCons (cst (.int 1)) (aCons (getV 1) aNil))) [11] (gSet 11) Pf.T_law_k40_3 Pf.E_law_k40_3)) (cst (.int 0))))
    (sSeq (sSet 7 (mkTup (aCons (e2 modD (e2 mulD (e2 mulD (getV 6) (getV 6)) (e2 ixD (getV 2) (cst (.int 0)))) (getV 1)) (aCons (e2 modD (e2 mulD (e2 mulD (e2 mulD (getV 6) (getV 6)) (getV 6)) (e2 ixD (getV 2) (cst (.int 1)))) (getV 1)) aNil))))
    (sSeq (sIf (tB' (e2 neD (callF Pf.F_other_half (aCons (getV 2) (aCons (getV 1) aNil))) (getV 7)))
    (sRet (cst (.bool false))) sNil)
    (sSeq (sIf (tB' (e2 eqD (e2 modD (getV 3) (cst (.int 4))) (cst (.int 1))))
    (sSet 4 (getV 7)) sNil)
    (sSeq (sSet 8 (callF Pf.F_alike (aCons (getV 2) (aCons (getV 4) (aCons (getV 1) aNil)))))
    (sSeq (sIf (tOrr (tB' (e1 isBool (getV 8))) (tB' (e2 neD (getV 8) (callF Pf.F_law_alike (aCons (getV 2) (aCons (getV 4) (aCons (getV 1) aNil)))))))
    (sRet (cst (.bool false))) sNil)
    (sSeq (sIf (tB' (e2 neD (callF Pf.F_own_maps (aCons (getV 2) (aCons (getV 1) aNil))) (callF tupleD (aCons (lstF (lcF (iF rng2D (aCons (cst (.int 1)) (aCons (getV 1) aNil))) [11] (gSet 11) Pf.T_law_k40_1 Pf.E_law_k40_1)) aNil))))
    (sRet (cst (.bool false))) sNil)
    (sSeq (sSet 8 (callF Pf.F_mark (aCons (getV 2) (aCons (getV 1) aNil))))
    (sSeq (sSet 9 (e2 mulD (e2 mulD (e2 mulD (cst (.int 4)) (e2 ixD (getV 2) (cst (.int 0)))) (e2 ixD (getV 2) (cst (.int 0)))) (e2 ixD (getV 2) (cst (.int 0)))))
    (sSeq (sIf (tOrr (tB' (e1 isBool (getV 8))) (tOrr (tNt (tB' (vChn leD ltD (cst (.int 0)) (getV 8) (getV 1)))) (tB' (e2 neD (e2 modD (e2 subD (e2 mulD (getV 8) (e2 addD (getV 9) (e2 mulD (e2 mulD (cst (.int 27)) (e2 ixD (getV 2) (cst (.int 1)))) (e2 ixD (getV 2) (cst (.int 1)))))) (getV 9)) (getV 1)) (cst (.int 0))))))
    (sRet (cst (.bool false))) sNil)
    (sSeq (sFor (iSeq (slcF (callF Pf.F_law_points (aCons (getV 2) (aCons (getV 1) aNil))) (oSo (cst (.int 1))) oNo)) (gSet 10)
    Pf.L_law_k40_1)
    (sRet (e2 eqD (callF Pf.F_carried (aCons (getV 1) (aCons (mkTup aNil) (aCons (getV 5) aNil)))) (mkTup aNil))))))))))))))))))))
def F_law_k40 : List Int → List Dt → Option Dt := runS ["script", "size", "curve", "number", "other", "u", "d", "half", "found", "top", "point", "one", "w"] [] B_law_k40
def L_law_k41_1 : SF :=
  (sSeq (sSet 8 (callF Pf.F_carried (aCons (getV 1) (aCons (callF Pf.F_plus (aCons (getV 2) (aCons (getV 1) (aCons (getV 6) (aCons (getV 7) aNil))))) (aCons (getV 4) aNil)))))
    (sSeq (sIf (tB' (e2 neD (getV 8) (callF Pf.F_plus (aCons (getV 5) (aCons (getV 1) (aCons (callF Pf.F_carried (aCons (getV 1) (aCons (getV 6) (aCons (getV 4) aNil)))) (aCons (callF Pf.F_carried (aCons (getV 1) (aCons (getV 7) (aCons (getV 4) aNil)))) aNil)))))))
    (sRet (cst (.bool false))) sNil)
    (sIf (tB' (e2 neD (callF Pf.F_order (aCons (getV 2) (aCons (getV 1) (aCons (getV 7) aNil)))) (callF Pf.F_order (aCons (getV 5) (aCons (getV 1) (aCons (callF Pf.F_carried (aCons (getV 1) (aCons (getV 7) (aCons (getV 4) aNil)))) aNil))))))
    (sRet (cst (.bool false))) sNil)))
def E_law_k41_1 : EF :=
  (callF Pf.F_carried (aCons (getV 1) (aCons (getV 7) (aCons (getV 4) aNil))))
def B_law_k41 : SF :=
  (sSeq (sSet 1 (e2 ixD (mkTup (aCons (cst (.int 5)) (aCons (cst (.int 7)) (aCons (cst (.int 11)) (aCons (cst (.int 13)) (aCons (cst (.int 17)) (aCons (cst (.int 19)) (aCons (cst (.int 23)) (aCons (cst (.int 29)) (aCons (cst (.int 31)) aNil)))))))))) (e2 modD (callS 0 Pf.F_law_mixed (aCons (cst (.int 0)) aNil)) (cst (.int 9)))))
    (sSeq (sSet 2 (callF Pf.F_law_curve (aCons (callS 0 Pf.F_law_mixed (aCons (cst (.int 1)) aNil)) (aCons (getV 1) aNil))))
    (sSeq (sSet 3 (callF Pf.F_law_points (aCons (getV 2) (aCons (getV 1) aNil))))
    (sSeq (sSet 4 (e2 addD (cst (.int 1)) (e2 modD (callS 0 Pf.F_law_mixed (aCons (cst (.int 2)) aNil)) (e2 subD (getV 1) (cst (.int 1))))))
    (sSeq (sSet 5 (callF Pf.F_law_moved (aCons (getV 2) (aCons (getV 1) (aCons (getV 4) aNil)))))
    (sSeq (sIf (tB' (e2 neD (callF sortedD (aCons (lstF (lcF (iSeq (getV 3)) [7] (gSet 7) tYesD Pf.E_law_k41_1)) aNil)) (callF listD (aCons (callF Pf.F_points (aCons (getV 5) (aCons (getV 1) aNil))) aNil))))
    (sRet (cst (.bool false))) sNil)
    (sSeq (sSet 6 (e2 ixD (getV 3) (e2 modD (callS 0 Pf.F_law_mixed (aCons (cst (.int 3)) aNil)) (callF lenD (aCons (getV 3) aNil)))))
    (sSeq (sFor (iSeq (getV 3)) (gSet 7)
    Pf.L_law_k41_1)
    (sSeq (sIf (tOrr (tB' (e2 isND (callF Pf.F_alike (aCons (getV 2) (aCons (getV 5) (aCons (getV 1) aNil)))) (cst .none))) (tB' (e2 isND (callF Pf.F_alike (aCons (getV 5) (aCons (getV 2) (aCons (getV 1) aNil)))) (cst .none))))
    (sRet (cst (.bool false))) sNil)
    (sRet (e2 eqD (callF Pf.F_mark (aCons (getV 2) (aCons (getV 1) aNil))) (callF Pf.F_mark (aCons (getV 5) (aCons (getV 1) aNil))))))))))))))
def F_law_k41 : List Int → List Dt → Option Dt := runS ["script", "size", "curve", "some", "u", "other", "one", "point", "both"] [] B_law_k41
def T_all_curves_1 : TF :=
  (tB' (callF Pf.F_is_curve (aCons (mkTup (aCons (getV 2) (aCons (getV 3) aNil))) (aCons (getV 0) aNil))))
def E_all_curves_1 : EF :=
  (mkTup (aCons (getV 2) (aCons (getV 3) aNil)))
def L_all_curves_1 : SF :=
  (sExt 1 (lstF (lcF (iF rng1D (aCons (getV 0) aNil)) [3] (gSet 3) Pf.T_all_curves_1 Pf.E_all_curves_1)))
def B_all_curves : SF :=
  (sSeq (sSetO 1 (lim aNil))
    (sSeq (sFor (iF rng1D (aCons (getV 0) aNil)) (gSet 2)
    Pf.L_all_curves_1)
    (sRetO 1)))
def F_all_curves : List Dt → Option Dt := runD ["size", "found", "a", "b"] ["size"] B_all_curves
def E_least_alike_1 : EF :=
  (callF Pf.F_moved (aCons (getV 0) (aCons (getV 1) (aCons (getV 2) aNil))))
def B_least_alike : SF :=
  (sRet (callF minD (aCons (lstF (lcF (iF rng2D (aCons (cst (.int 1)) (aCons (getV 1) aNil))) [2] (gSet 2) tYesD Pf.E_least_alike_1)) aNil)))
def F_least_alike : List Dt → Option Dt := runD ["curve", "size", "u"] ["curve", "size"] B_least_alike
def T_kinds_1 : TF :=
  (tB' (e2 eqD (callF Pf.F_least_alike (aCons (getV 1) (aCons (getV 0) aNil))) (getV 1)))
def E_kinds_1 : EF :=
  (getV 1)
def B_kinds : SF :=
  (sRet (callF tupleD (aCons (lstF (lcF (iSeq (callF Pf.F_all_curves (aCons (getV 0) aNil))) [1] (gSet 1) Pf.T_kinds_1 Pf.E_kinds_1)) aNil)))
def F_kinds : List Dt → Option Dt := runD ["size", "curve"] ["size"] B_kinds
def L_law_k43_1 : SF :=
  (sSeq (sSet 7 (e2 modD (e2 addD (e2 addD (e2 mulD (e2 mulD (getV 6) (getV 6)) (getV 6)) (e2 mulD (e2 ixD (getV 2) (cst (.int 0))) (getV 6))) (e2 ixD (getV 2) (cst (.int 1)))) (getV 1)))
    (sIf (tB' (e2 neD (e2 notND (callF Pf.F_root (aCons (getV 7) (aCons (getV 1) aNil))) (cst .none)) (e2 inD (getV 6) (getV 5))))
    (sRet (cst (.bool false))) sNil))
def E_law_k43_1 : EF :=
  (e2 ixD (getV 8) (cst (.int 0)))
def B_law_k43 : SF :=
  (sSeq (sSet 1 (e2 ixD (mkTup (aCons (cst (.int 5)) (aCons (cst (.int 7)) (aCons (cst (.int 11)) (aCons (cst (.int 13)) (aCons (cst (.int 17)) (aCons (cst (.int 19)) (aCons (cst (.int 23)) (aCons (cst (.int 29)) (aCons (cst (.int 31)) aNil)))))))))) (e2 modD (callS 0 Pf.F_law_mixed (aCons (cst (.int 0)) aNil)) (cst (.int 9)))))
    (sSeq (sSet 2 (callF Pf.F_law_curve (aCons (callS 0 Pf.F_law_mixed (aCons (cst (.int 1)) aNil)) (aCons (getV 1) aNil))))
    (sSeq (sSet 3 (callF Pf.F_other_half (aCons (getV 2) (aCons (getV 1) aNil))))
    (sSeq (sIf (tOrr (tNt (tB' (callF Pf.F_law_good (aCons (getV 3) (aCons (getV 1) aNil))))) (tB' (e2 neD (e2 addD (callF Pf.F_count (aCons (getV 2) (aCons (getV 1) aNil))) (callF Pf.F_count (aCons (getV 3) (aCons (getV 1) aNil)))) (e2 addD (e2 mulD (cst (.int 2)) (getV 1)) (cst (.int 2))))))
    (sRet (cst (.bool false))) sNil)
    (sSeq (sIf (tOrr (tB' (e2 neD (callF Pf.F_mark (aCons (getV 3) (aCons (getV 1) aNil))) (callF Pf.F_mark (aCons (getV 2) (aCons (getV 1) aNil))))) (tB' (e2 isND (callF Pf.F_alike (aCons (callF Pf.F_other_half (aCons (getV 3) (aCons (getV 1) aNil))) (aCons (getV 2) (aCons (getV 1) aNil)))) (cst .none))))
    (sRet (cst (.bool false))) sNil)
    (sSeq (sSet 4 (callF Pf.F_law_curve (aCons (callS 0 Pf.F_law_mixed (aCons (cst (.int 2)) aNil)) (aCons (getV 1) aNil))))
    (sSeq (sIf (tAn (tB' (e2 neD (callF Pf.F_mark (aCons (getV 4) (aCons (getV 1) aNil))) (callF Pf.F_mark (aCons (getV 2) (aCons (getV 1) aNil))))) (tB' (e2 notND (callF Pf.F_alike (aCons (getV 2) (aCons (getV 4) (aCons (getV 1) aNil)))) (cst .none))))
    (sRet (cst (.bool false))) sNil)
    (sSeq (sSet 5 (lstF (lcF (iSeq (slcF (callF Pf.F_law_points (aCons (getV 2) (aCons (getV 1) aNil))) (oSo (cst (.int 1))) oNo)) [8] (gSet 8) tYesD Pf.E_law_k43_1)))
    (sSeq (sFor (iF rng1D (aCons (getV 1) aNil)) (gSet 6)
    Pf.L_law_k43_1)
    (sRet (cst (.bool true))))))))))))
def F_law_k43 : List Int → List Dt → Option Dt := runS ["script", "size", "curve", "half", "other", "xs", "x", "high", "point"] [] B_law_k43
def B_base_points : SF :=
  (sSeq (sIf (tB' (e2 eqD (getV 2) (mkTup aNil)))
    sNever sNil)
    (sRet (slcF (callF Pf.F_rounds (aCons (getV 0) (aCons (getV 1) (aCons (getV 2) aNil)))) oNo (oSo (e1 negD (cst (.int 1)))))))
def F_base_points : List Dt → Option Dt := runD ["curve", "size", "base"] ["curve", "size", "base"] B_base_points
def L_led_1 : SF :=
  (sSeq (sSet 7 (e2 addD (e2 mulD (e2 mulD (cst (.int 3)) (getV 5)) (getV 5)) (e2 ixD (getV 0) (cst (.int 0)))))
    (sSeq (sSet 3 (e2 addD (getV 3) (getV 7)))
    (sSet 4 (e2 addD (e2 addD (getV 4) (e2 mulD (e2 mulD (cst (.int 2)) (getV 6)) (getV 6))) (e2 mulD (getV 5) (getV 7))))))
def B_led : SF :=
  (sSeq (sSet 3 (cst (.int 0)))
    (sSeq (sSet 4 (cst (.int 0)))
    (sSeq (sFor (iSeq (callF Pf.F_base_points (aCons (getV 0) (aCons (getV 1) (aCons (getV 2) aNil))))) (gTupD [5, 6])
    Pf.L_led_1)
    (sRet (mkTup (aCons (e2 modD (e2 subD (e2 ixD (getV 0) (cst (.int 0))) (e2 mulD (cst (.int 5)) (getV 3))) (getV 1)) (aCons (e2 modD (e2 subD (e2 ixD (getV 0) (cst (.int 1))) (e2 mulD (cst (.int 7)) (getV 4))) (getV 1)) aNil)))))))
def F_led : List Dt → Option Dt := runD ["curve", "size", "base", "v", "w", "x", "y", "part"] ["curve", "size", "base"] B_led
def L_lead_1 : SF :=
  (sSeq (sSet 8 (callF Pf.F_plus (aCons (getV 0) (aCons (getV 1) (aCons (getV 3) (aCons (getV 5) aNil))))))
    (sSeq (sSet 6 (e2 subD (e2 addD (getV 6) (e2 ixD (getV 8) (cst (.int 0)))) (e2 ixD (getV 5) (cst (.int 0)))))
    (sSet 7 (e2 subD (e2 addD (getV 7) (e2 ixD (getV 8) (cst (.int 1)))) (e2 ixD (getV 5) (cst (.int 1)))))))
def B_lead : SF :=
  (sSeq (sSet 4 (callF Pf.F_base_points (aCons (getV 0) (aCons (getV 1) (aCons (getV 2) aNil)))))
    (sSeq (sIf (tOrr (tB' (e2 eqD (getV 3) (mkTup aNil))) (tB' (e2 inD (getV 3) (getV 4))))
    (sRet (mkTup aNil)) sNil)
    (sSeq (sAsg (gTupD [6, 7]) (getV 3))
    (sSeq (sFor (iSeq (getV 4)) (gSet 5)
    Pf.L_lead_1)
    (sRet (mkTup (aCons (e2 modD (getV 6) (getV 1)) (aCons (e2 modD (getV 7) (getV 1)) aNil))))))))
def F_lead : List Dt → Option Dt := runD ["curve", "size", "base", "point", "some", "other", "x", "y", "both"] ["curve", "size", "base", "point"] B_lead
def E_law_led_1 : EF :=
  (e2 addD (e2 mulD (e2 mulD (cst (.int 2)) (getV 6)) (getV 6)) (e2 mulD (getV 5) (e2 addD (e2 mulD (e2 mulD (cst (.int 3)) (getV 5)) (getV 5)) (e2 ixD (getV 0) (cst (.int 0))))))
def E_law_led_2 : EF :=
  (e2 addD (e2 mulD (e2 mulD (cst (.int 3)) (getV 5)) (getV 5)) (e2 ixD (getV 0) (cst (.int 0))))
def B_law_led : SF :=
  (sSeq (sSet 3 (callF sumD (aCons (lstF (lcF (iSeq (getV 2)) [5, 6] (gTupD [5, 6]) tYesD Pf.E_law_led_2)) aNil)))
    (sSeq (sSet 4 (callF sumD (aCons (lstF (lcF (iSeq (getV 2)) [5, 6] (gTupD [5, 6]) tYesD Pf.E_law_led_1)) aNil)))
    (sRet (mkTup (aCons (e2 modD (e2 subD (e2 ixD (getV 0) (cst (.int 0))) (e2 mulD (cst (.int 5)) (getV 3))) (getV 1)) (aCons (e2 modD (e2 subD (e2 ixD (getV 0) (cst (.int 1))) (e2 mulD (cst (.int 7)) (getV 4))) (getV 1)) aNil))))))
def F_law_led : List Dt → Option Dt := runD ["curve", "size", "some", "v", "w", "x", "y"] ["curve", "size", "some"] B_law_led
def E_law_lead_1 : EF :=
  (e2 subD (e2 addD (e2 ixD (getV 4) (getV 7)) (e2 ixD (getV 6) (getV 7))) (e2 ixD (getV 5) (getV 7)))
def L_law_lead_1 : SF :=
  (sSeq (sSet 6 (callF Pf.F_law_plus (aCons (getV 0) (aCons (getV 1) (aCons (getV 3) (aCons (getV 5) aNil))))))
    (sSet 4 (lstF (lcF (iSeq (mkTup (aCons (cst (.int 0)) (aCons (cst (.int 1)) aNil)))) [7] (gSet 7) tYesD Pf.E_law_lead_1))))
def B_law_lead : SF :=
  (sSeq (sIf (tOrr (tB' (e2 eqD (getV 3) (mkTup aNil))) (tB' (e2 inD (getV 3) (getV 2))))
    (sRet (mkTup aNil)) sNil)
    (sSeq (sSet 4 (callF listD (aCons (getV 3) aNil)))
    (sSeq (sFor (iSeq (getV 2)) (gSet 5)
    Pf.L_law_lead_1)
    (sRet (mkTup (aCons (e2 modD (e2 ixD (getV 4) (cst (.int 0))) (getV 1)) (aCons (e2 modD (e2 ixD (getV 4) (cst (.int 1))) (getV 1)) aNil)))))))
def F_law_lead : List Dt → Option Dt := runD ["curve", "size", "some", "point", "found", "other", "both", "k"] ["curve", "size", "some", "point"] B_law_lead
def T_law_k51_1 : TF :=
  (tB' (e2 eqD (getV 12) (mkTup aNil)))
def E_law_k51_1 : EF :=
  (getV 11)
def E_law_k51_2 : EF :=
  (callF Pf.F_times (aCons (getV 2) (aCons (getV 1) (aCons (getV 13) (aCons (getV 4) aNil)))))
def L_law_k51_1 : SF :=
  (sIf (tB' (e2 neD (callF Pf.F_lead (aCons (getV 2) (aCons (getV 1) (aCons (getV 4) (aCons (callF Pf.F_plus (aCons (getV 2) (aCons (getV 1) (aCons (getV 6) (aCons (getV 11) aNil))))) aNil))))) (callF Pf.F_plus (aCons (getV 5) (aCons (getV 1) (aCons (getV 7) (aCons (getV 12) aNil)))))))
    (sRet (cst (.bool false))) sNil)
def E_law_k51_3 : EF :=
  (callF Pf.F_lead (aCons (getV 2) (aCons (getV 1) (aCons (getV 4) (aCons (getV 11) aNil)))))
def B_law_k51 : SF :=
  (sSeq (sSet 1 (e2 ixD (mkTup (aCons (cst (.int 5)) (aCons (cst (.int 7)) (aCons (cst (.int 11)) (aCons (cst (.int 13)) (aCons (cst (.int 17)) (aCons (cst (.int 19)) (aCons (cst (.int 23)) (aCons (cst (.int 29)) (aCons (cst (.int 31)) aNil)))))))))) (e2 modD (callS 0 Pf.F_law_mixed (aCons (cst (.int 0)) aNil)) (cst (.int 9)))))
    (sSeq (sSet 2 (callF Pf.F_law_curve (aCons (callS 0 Pf.F_law_mixed (aCons (cst (.int 1)) aNil)) (aCons (getV 1) aNil))))
    (sSeq (sSet 3 (callF Pf.F_law_points (aCons (getV 2) (aCons (getV 1) aNil))))
    (sSeq (sSet 4 (e2 ixD (getV 3) (e2 modD (callS 0 Pf.F_law_mixed (aCons (cst (.int 2)) aNil)) (callF lenD (aCons (getV 3) aNil)))))
    (sSeq (sIf (tB' (e2 eqD (getV 4) (mkTup aNil)))
    (sRet (cst (.bool true))) sNil)
    (sSeq (sSet 5 (callF Pf.F_led (aCons (getV 2) (aCons (getV 1) (aCons (getV 4) aNil)))))
    (sSeq (sSet 6 (e2 ixD (getV 3) (e2 modD (callS 0 Pf.F_law_mixed (aCons (cst (.int 3)) aNil)) (callF lenD (aCons (getV 3) aNil)))))
    (sSeq (sSet 7 (callF Pf.F_lead (aCons (getV 2) (aCons (getV 1) (aCons (getV 4) (aCons (getV 6) aNil))))))
    (sSeq (sSet 8 (lstF (lcF (iSeq (getV 3)) [11] (gSet 11) tYesD Pf.E_law_k51_3)))
    (sSeq (sFor (iF zipD (aCons (getV 3) (aCons (getV 8) aNil))) (gTupD [11, 12])
    Pf.L_law_k51_1)
    (sSeq (sSet 9 (callF Pf.F_order (aCons (getV 2) (aCons (getV 1) (aCons (getV 4) aNil)))))
    (sSeq (sSet 10 (callF sortedD (aCons (lstF (lcF (iF rng1D (aCons (getV 9) aNil)) [13] (gSet 13) tYesD Pf.E_law_k51_2)) aNil)))
    (sSeq (sIf (tB' (e2 neD (callF sortedD (aCons (lstF (lcF (iF zipD (aCons (getV 3) (aCons (getV 8) aNil))) [11, 12] (gTupD [11, 12]) Pf.T_law_k51_1 Pf.E_law_k51_1)) aNil)) (getV 10)))
    (sRet (cst (.bool false))) sNil)
    (sRet (e2 eqD (e2 mulD (e1 lenSetD (getV 8)) (getV 9)) (callF lenD (aCons (getV 3) aNil)))))))))))))))))
def F_law_k51 : List Int → List Dt → Option Dt := runS ["script", "size", "curve", "some", "base", "other", "one", "first", "images", "many", "due", "point", "image", "k"] [] B_law_k51
def L_law_k52_1 : SF :=
  (sSeq (sSet 6 (callF Pf.F_points (aCons (getV 4) (aCons (getV 1) aNil))))
    (sSeq (sIf (tOrr (tB' (e2 neD (callF lenD (aCons (getV 6) aNil)) (getV 3))) (tNt (tB' (callF Pf.F_law_good (aCons (getV 4) (aCons (getV 1) aNil))))))
    (sRet (cst (.bool false))) sNil)
    (sIf (tB' (e2 gtD (getV 3) (cst (.int 1))))
    (sSet 4 (callF Pf.F_led (aCons (getV 4) (aCons (getV 1) (aCons (e2 ixD (getV 6) (e2 addD (cst (.int 1)) (e2 modD (callS 0 Pf.F_law_mixed (aCons (e2 addD (cst (.int 2)) (getV 5)) aNil)) (e2 subD (getV 3) (cst (.int 1)))))) aNil))))) sNil)))
def B_law_k52 : SF :=
  (sSeq (sSet 1 (e2 ixD (mkTup (aCons (cst (.int 5)) (aCons (cst (.int 7)) (aCons (cst (.int 11)) (aCons (cst (.int 13)) (aCons (cst (.int 17)) (aCons (cst (.int 19)) (aCons (cst (.int 23)) (aCons (cst (.int 29)) (aCons (cst (.int 31)) aNil)))))))))) (e2 modD (callS 0 Pf.F_law_mixed (aCons (cst (.int 0)) aNil)) (cst (.int 9)))))
    (sSeq (sSet 2 (callF Pf.F_law_curve (aCons (callS 0 Pf.F_law_mixed (aCons (cst (.int 1)) aNil)) (aCons (getV 1) aNil))))
    (sSeq (sSet 3 (callF Pf.F_count (aCons (getV 2) (aCons (getV 1) aNil))))
    (sSeq (sSet 4 (getV 2))
    (sSeq (sFor (iF rng1D (aCons (cst (.int 3)) aNil)) (gSet 5)
    Pf.L_law_k52_1)
    (sRet (e2 eqD (callF Pf.F_count (aCons (getV 4) (aCons (getV 1) aNil))) (getV 3))))))))
def F_law_k52 : List Int → List Dt → Option Dt := runS ["script", "size", "curve", "many", "here", "k", "some"] [] B_law_k52
def E_by_twos_1 : EF :=
  (callF Pf.F_least_alike (aCons (callF Pf.F_led (aCons (getV 0) (aCons (getV 1) (aCons (getV 3) aNil)))) (aCons (getV 1) aNil)))
def T_by_twos_1 : TF :=
  (tAn (tB' (e2 neD (getV 3) (mkTup aNil))) (tB' (e2 eqD (e2 ixD (getV 3) (cst (.int 1))) (cst (.int 0)))))
def E_by_twos_2 : EF :=
  (getV 3)
def B_by_twos : SF :=
  (sSeq (sSet 2 (lstF (lcF (iSeq (callF Pf.F_points (aCons (getV 0) (aCons (getV 1) aNil)))) [3] (gSet 3) Pf.T_by_twos_1 Pf.E_by_twos_2)))
    (sRet (lstF (lcF (iSeq (getV 2)) [3] (gSet 3) tYesD Pf.E_by_twos_1))))
def F_by_twos : List Dt → Option Dt := runD ["curve", "size", "some", "point"] ["curve", "size"] B_by_twos
def E_law_least_1 : EF :=
  (callF Pf.F_law_moved (aCons (getV 0) (aCons (getV 1) (aCons (getV 2) aNil))))
def B_law_least : SF :=
  (sRet (callF minD (aCons (lstF (lcF (iF rng2D (aCons (cst (.int 1)) (aCons (getV 1) aNil))) [2] (gSet 2) tYesD Pf.E_law_least_1)) aNil)))
def F_law_least : List Dt → Option Dt := runD ["curve", "size", "u"] ["curve", "size"] B_law_least
def E_first_of_order_1 : EF :=
  (callF Pf.F_power (aCons (getV 2) (aCons (getV 4) (aCons (getV 1) aNil))))
def L_first_of_order_1 : SF :=
  (sSeq (sSet 3 (lstF (lcF (iF rng2D (aCons (cst (.int 1)) (aCons (e2 addD (getV 0) (cst (.int 1))) aNil))) [4] (gSet 4) tYesD Pf.E_first_of_order_1)))
    (sIf (tAn (tB' (e2 inD (cst (.int 1)) (getV 3))) (tB' (e2 eqD (e2 addD (methF indexD (getV 3) (aCons (cst (.int 1)) aNil)) (cst (.int 1))) (getV 0))))
    (sRet (getV 2)) sNil))
def B_first_of_order : SF :=
  (sSeq (sFor (iF rng2D (aCons (cst (.int 1)) (aCons (getV 1) aNil))) (gSet 2)
    Pf.L_first_of_order_1)
    (sRet (cst .none)))
def F_first_of_order : List Dt → Option Dt := runD ["many", "size", "number", "powers", "often"] ["many", "size"] B_first_of_order
def B_law_k71 : SF :=
  (sSeq (sSet 1 (e2 ixD (mkTup (aCons (cst (.int 5)) (aCons (cst (.int 7)) (aCons (cst (.int 11)) (aCons (cst (.int 13)) (aCons (cst (.int 17)) (aCons (cst (.int 19)) (aCons (cst (.int 23)) (aCons (cst (.int 29)) (aCons (cst (.int 31)) aNil)))))))))) (e2 modD (callS 0 Pf.F_law_mixed (aCons (cst (.int 0)) aNil)) (cst (.int 9)))))
    (sSeq (sSet 2 (e2 addD (cst (.int 1)) (e2 modD (callS 0 Pf.F_law_mixed (aCons (cst (.int 1)) aNil)) (e2 subD (getV 1) (cst (.int 1))))))
    (sSeq (sIf (tAn (tB' (e2 eqD (e2 modD (getV 1) (cst (.int 3))) (cst (.int 2)))) (tB' (e2 neD (callF Pf.F_count (aCons (mkTup (aCons (cst (.int 0)) (aCons (getV 2) aNil))) (aCons (getV 1) aNil))) (e2 addD (getV 1) (cst (.int 1))))))
    (sRet (cst (.bool false))) sNil)
    (sSeq (sIf (tAn (tB' (e2 eqD (e2 modD (getV 1) (cst (.int 4))) (cst (.int 3)))) (tB' (e2 neD (callF Pf.F_count (aCons (mkTup (aCons (getV 2) (aCons (cst (.int 0)) aNil))) (aCons (getV 1) aNil))) (e2 addD (getV 1) (cst (.int 1))))))
    (sRet (cst (.bool false))) sNil)
    (sSeq (sSet 3 (callF lenD (aCons (callF Pf.F_own_maps (aCons (mkTup (aCons (cst (.int 0)) (aCons (getV 2) aNil))) (aCons (getV 1) aNil))) aNil)))
    (sSeq (sSet 4 (callF lenD (aCons (callF Pf.F_own_maps (aCons (mkTup (aCons (getV 2) (aCons (cst (.int 0)) aNil))) (aCons (getV 1) aNil))) aNil)))
    (sRet (vAn (e2 eqD (getV 3) (e2 ixD (mkTup (aCons (cst (.int 2)) (aCons (cst (.int 6)) aNil))) (callF intD (aCons (e2 eqD (e2 modD (getV 1) (cst (.int 3))) (cst (.int 1))) aNil)))) (e2 eqD (getV 4) (e2 ixD (mkTup (aCons (cst (.int 2)) (aCons (cst (.int 4)) aNil))) (callF intD (aCons (e2 eqD (e2 modD (getV 1) (cst (.int 4))) (cst (.int 1))) aNil))))))))))))
def F_law_k71 : List Int → List Dt → Option Dt := runS ["script", "size", "number", "six", "four"] [] B_law_k71
end Pf

-- part Cc9
set_option maxHeartbeats 2000000
namespace Cc
open PySem PySem.Spec PyProof.Rows L2
/-! ### len(set(xs)), xs a list of tuples of ints -/
theorem nodup_sub_len {α : Type} [DecidableEq α] : ∀ {xs ys : List α}, xs.Nodup → (∀ x ∈ xs, x ∈ ys) → xs.length ≤ ys.length
  | [], _, _, _ => Nat.zero_le _
  | x :: xs, ys, hd, hs => by
    have hx := List.nodup_cons.mp hd
    have h1 := hs x List.mem_cons_self
    have := nodup_sub_len (ys := ys.erase x) hx.2 fun y hy => (List.mem_erase_of_ne (by rintro rfl; exact hx.1 hy)).mpr (hs y (List.mem_cons_of_mem _ hy))
    rw [List.length_erase_of_mem h1] at this
    have := List.length_pos_of_mem h1
    rw [List.length_cons]
    omega
theorem mem_dedup {t : List Int} : ∀ {ts : List (List Int)}, t ∈ dedup ts ↔ t ∈ ts
  | [] => Iff.rfl
  | x :: xs => by
    unfold dedup
    split
    · next h =>
      rw [mem_dedup, List.mem_cons]
      exact ⟨.inr, fun q => q.elim (fun e => e ▸ h) id⟩
    · rw [List.mem_cons, List.mem_cons, mem_dedup]
theorem nodup_dedup : ∀ {ts : List (List Int)}, (dedup ts).Nodup
  | [] => List.nodup_nil
  | x :: xs => by
    unfold dedup
    split
    · exact nodup_dedup
    · next h => exact List.nodup_cons.mpr ⟨fun q => h (mem_dedup.mp q), nodup_dedup⟩
theorem rps_tups {K : PySem.W.Frag} {G : Hp} : ∀ {xs : List V} {ts : List (List Int)}, Rps K G xs (ts.map tupI) → ∃ ks : List (Addr × List Int), xs = ks.map (fun p => V.ref p.1) ∧ ks.map (·.2) = ts ∧ ∀ p ∈ ks, G p.1 = some (.tup (p.2.map V.int))
  | _, [], h => by
    cases h; exact ⟨[], rfl, rfl, fun p q => by cases q⟩
  | _, t :: ts, h => by
    cases h with
    | cons r h =>
      obtain ⟨a, ys, rfl, ha, ra⟩ := r.of_tup
      rw [rps_ints ra] at ha
      obtain ⟨ks, rfl, e, q⟩ := rps_tups h
      refine ⟨(a, t) :: ks, rfl, by rw [List.map_cons, e], fun p hp => ?_⟩
      rcases List.mem_cons.mp hp with rfl | hp
      · exact ha
      · exact q p hp
theorem nodup_same_len {α : Type} [DecidableEq α] {xs ys : List α} (hx : xs.Nodup) (hy : ys.Nodup) (h : ∀ x, x ∈ xs ↔ x ∈ ys) : xs.length = ys.length :=
  Nat.le_antisymm (nodup_sub_len hx fun x q => (h x).mp q) (nodup_sub_len hy fun x q => (h x).mpr q)
theorem d_lenSet {X : Cx} {a : Expr} {f : EF} {k : Nat} {p p2 q pos : Pos} (hg : Gl X "len") (hm : X.mg "len" = none) (hg2 : Gl X "set") (hm2 : X.mg "set" = none) (hr : Room k X.A) (ha : PE X a (canW X.K f)) (hc : X.calm = true := by rfl)
    (na : starEach [a] X.env = (false, eval a X.env) :: starEach [] X.env := by rfl) : PE X (.Call (.Name "len" p) [.Call (.Name "set" p2) [a] [] q] [] pos) (can X.K (e1 lenSetD f)) := by
  refine ⟨fun pins s σ H Q I h => ?_⟩
  obtain ⟨G, ρ, d, E, hf, h⟩ := h
  obtain ⟨d0, hd0, hf⟩ := Option.bind_eq_some_iff.mp (show (f ρ).bind lenSetD = some d from hf)
  have hts : ∃ ts : List (List Int), d0 = .list (ts.map tupI) ∧ ts.length < 64 ∧ d = .int (dedup ts).length := by
    unfold lenSetD at hf
    split at hf
    · obtain ⟨ts, h1, h2⟩ := Option.bind_eq_some_iff.mp hf
      by_cases h3 : ts.length < 64
      · rw [if_pos h3] at h2
        cases h2
        exact ⟨ts, by rw [tupsD_some h1], h3, rfl⟩
      · rw [if_neg h3] at h2; cases h2
    · cases hf
  obtain ⟨ts, rfl, hlt, rfl⟩ := hts
  refine Call_ (ld_blt I hg hm PySem.boot_len ?_)
  refine PyProof.Rows.callWith_builtin1 (PyProof.Rows.args_cons ?_ rfl) rfl rfl
  refine Call_ (ld_blt I hg2 hm2 PyProof.Rows.boot_set ?_)
  refine PyProof.Rows.callWith_type1 (PyProof.Rows.args_cons (thn (ha.run pins s σ H (fun x H1 => ∃ G1, Step G H G1 H1 ∧ RpW X.K G1 H1 x (.list (ts.map tupI))) I ⟨G, ρ, _, E, hd0, fun v G1 H1 s1 r1 => ⟨G1, s1, r1⟩⟩) fun v s1 ⟨x, H1, I1, r1, G1, st, rw1⟩ => PyProof.Rows.args_nil ?_) na) na rfl
  obtain ⟨l, xs, rfl, hl, rs⟩ := rw1.lst st.gh
  cases r1
  obtain ⟨ks, rfl, e2, hk⟩ := rps_tups (Rps.mono st.gh rs)
  have hkl : ks.length = ts.length := by rw [← e2, List.length_map]
  obtain ⟨its, rv, pl, hz⟩ := I1.list (SqL.of hl)
  refine call_set_tups (P := X.prog) (w := X.w) ks (I1.ok.hd hc) pl.isList (by simpa using refs_of_vals rv) (fun p hp => I1.isT (SqT.of (hk p hp))) (by omega) (by have := hr.units; omega) fun h' tk L es ep t R g kp => ?_
  refine PyProof.Rows.args_nil ?_
  have I2 : Inv X pins σ H1 { s1 with heap := h', toks := tk } := I1.kept fun b o e => kp b o e
  obtain ⟨o, ho, hex, hd⟩ := R.ob
  have hsz : es.size = L.length := by
    have h := congrArg List.length R.rows
    unfold rowsOf at h
    rw [Array.length_toList, List.length_map] at h
    exact h
  have hL : L.length = (dedup ts).length := by
    have : (L.map (·.2)).length = (dedup ts).length := by
      refine nodup_same_len R.nd nodup_dedup fun x => ?_
      rw [mem_dedup, ← e2]
      constructor
      · intro hx
        obtain ⟨p, hp, rfl⟩ := List.mem_map.mp hx
        exact List.mem_map.mpr ⟨p, List.mem_of_mem_take (g.sub p hp), rfl⟩
      · intro hx
        obtain ⟨p, hp, rfl⟩ := List.mem_map.mp hx
        exact g.all p (by rw [List.take_length]; exact hp)
    rwa [List.length_map] at this
  have few := R.few
  refine call_len_set ho hex hd (SetTR.fits (s := { s1 with heap := h', toks := tk }) R) (by rw [hsz]; omega) ⟨.int L.length, H1, I2.tok _, ⟨_, by rw [hsz]⟩, ?_⟩
  rw [hL]
  exact h _ G1 H1 st (.int _)
end Cc

-- part Cc10
set_option maxHeartbeats 2000000
namespace Cc
open PySem PySem.Spec PyProof.Rows L2 HT
/-! ### xs[::-1] of a tuple -/
section
variable {prog : Program} {w : World} {A : Around} {E : Value → Shared → Prop} {s : Shared}
theorem adjust_rev (n : Nat) : Builtin.Slice.sliceAdjust none none (-1) (n : Int) = ((n : Int) - 1, -1) := by
  unfold Builtin.Slice.sliceAdjust
  simp
theorem places_rev (n : Nat) : Builtin.Slice.slicePlaces ((n : Int) - 1) (-1) (-1) = n := by
  unfold Builtin.Slice.slicePlaces
  simp
  omega
theorem fm_congr {α β : Type} {f g : α → Option β} : ∀ {xs : List α}, (∀ x ∈ xs, f x = g x) → xs.filterMap f = xs.filterMap g
  | [], _ => rfl
  | x :: xs, h => by
    rw [List.filterMap_cons, List.filterMap_cons, h x List.mem_cons_self, fm_congr fun y hy => h y (List.mem_cons_of_mem _ hy)]
theorem rev_pick {α : Type} : ∀ (xs : List α), ((List.range xs.length).filterMap fun m : Nat => xs[(((xs.length : Int) - 1) + (m : Int) * -1).toNat]?) = xs.reverse := by
  intro xs
  refine List.ext_getElem? fun i => ?_
  have e : ((List.range xs.length).filterMap fun m : Nat => xs[(((xs.length : Int) - 1) + (m : Int) * -1).toNat]?) = (List.range xs.length).filterMap fun m => xs.reverse[m]? := by
    refine fm_congr fun m hm => ?_
    have hm := List.mem_range.mp hm
    rw [List.getElem?_reverse hm]
    congr 1
    omega
  rw [e]
  have e2 : ∀ (ys : List α) (k : Nat), k ≤ ys.length → (List.range k).filterMap (fun m => ys[m]?) = ys.take k := by
    intro ys k
    induction k with
    | zero => intro _; simp
    | succ k ih =>
      intro hk
      rw [List.range_succ, List.filterMap_append, ih (by omega), List.take_add_one]
      have : ys[k]? = some ys[k] := List.getElem?_eq_getElem (by omega)
      simp [this]
  have e3 := e2 xs.reverse xs.length (by simp)
  rw [e3, List.take_of_length_le (by simp)]
theorem sliceApplied_rev {sl : Addr} {n : Nat} {t : Tok} {Q : Int × Int × Nat → Shared → Prop} (hs : s.heap.IsSliceOf sl .none .none (.int (-1) t)) (h : Q ((n : Int) - 1, -1, n) s) :
    wpAny (model prog w) A (Builtin.Slice.sliceApplied (.ref sl) (pure (n : Int))) Q E s := by
  obtain ⟨o, ho, hc, hd⟩ := id hs
  unfold Builtin.Slice.sliceApplied Builtin.Slice.sliceFields
  refine wpAny_bind (wpAny_bind (wpAny_field ho hd (x := .none) rfl (wpAny_bind (wpAny_field ho hd (x := .none) rfl (wpAny_bind (wpAny_field ho hd (x := .int (-1) t) rfl (wpAny_pure ?_)))))))
  refine wpAny_bind (slicePart_int ?_)
  show wpAny _ _ (if ((-1 : Int) == 0) = true then _ else _) _ _ s
  rw [if_neg (show ¬ ((-1 : Int) == 0) = true by decide)]
  refine wpAny_bind (slicePart_none (wpAny_bind (slicePart_none (wpAny_bind (wpAny_pure ?_)))))
  show wpAny _ _ (match Builtin.Slice.sliceAdjust none none (-1) (n : Int) with | (a, b) => pure (a, (-1 : Int), Builtin.Slice.slicePlaces a b (-1))) _ _ s
  rw [adjust_rev n]
  show wpAny _ _ (pure ((n : Int) - 1, (-1 : Int), Builtin.Slice.slicePlaces ((n : Int) - 1) (-1) (-1))) _ _ s
  rw [places_rev n]
  exact wpAny_pure h
theorem item_tuple_rev {b sl : Addr} {vs : Array Value} {t : Tok} {Q : Value → Shared → Prop} (hb : IsTup s.heap b vs) (hs : s.heap.IsSliceOf sl .none .none (.int (-1) t)) (hz : vs.size ≤ sizeLine)
    (h : Q (.ref s.heap.objs.size) { s with heap := s.heap.push { cls := .type "tuple", data := .seq vs.toList.reverse.toArray } }) : wpAny (model prog w) A (getItem (.ref b) (.ref sl)) Q E s := by
  have room : sizeOk (.seq vs.toList.reverse.toArray) := by
    show vs.toList.reverse.toArray.size ≤ sizeLine
    rw [List.size_toArray, List.length_reverse, Array.length_toList]
    exact hz
  obtain ⟨o, ho, hc, hd⟩ := id hs
  have ty : s.TypeIs (.ref sl) "slice" := ⟨o, ho, hc⟩
  unfold getItem
  try with_reducible refine wpAny_holding ?_
  first | refine wpAny_bind (wpAny_pure ?_) | skip
  refine wpAny_bind (wpAny_sequenceKey hb.typeIs (by decide) ?_)
  refine wpAny_bind (wpAny_callSpecial?_slot (name := Str.ofString "__getitem__") hb.typeIs PyProof.Rows.slot_tuple_getitem (wpAny_call_entry PyProof.Rows.slot_tuple_getitem hb.typeIs entry_tuple_getitem ?_ (args_tuple_getitem _ _)))
  show wpAny _ _ (Builtin.Tuple.tupleItemsOf (.ref b) >>= _) _ _ s
  refine wpAny_bind (tupleItemsOf_ hb (wpAny_bind (wpAny_typeOf ty ?_)))
  rw [if_pos (show ((Value.type "slice") == (Value.type "slice")) = true by decide)]
  refine wpAny_bind (sliceApplied_rev hs ?_)
  have no : ¬ (((vs.size : Int) - 1 == 0 && (-1 : Int) == 1 && vs.size == vs.size) = true) := by simp
  show wpAny _ _ (if ((vs.size : Int) - 1 == 0 && (-1 : Int) == 1 && vs.size == vs.size) = true then _ else _) _ _ s
  have pk := rev_pick vs.toList
  rw [Array.length_toList] at pk
  have pk2 : (List.range vs.size).filterMap (fun m : Nat => vs[(((vs.size : Int) - 1) + (m : Int) * -1).toNat]?) = vs.toList.reverse := by
    rw [← pk]
    exact fm_congr fun m _ => (Array.getElem?_toList).symm
  rw [if_neg no, pk2]
  first
    | exact wpAny_bind (m := Builtin.Tuple.tupleExact _) (wpAny_newObj_type (wpAny_pure ⟨_, rfl, wpAny_pure h⟩) room)
    | exact wpAny_bind (m := Builtin.Tuple.tupleExact _) (wpAny_newObj_type (wpAny_bind (wpAny_pure (wpAny_pure ⟨_, rfl, wpAny_pure h⟩))) room)
    | exact wpAny_bind (wpAny_bind (m := Builtin.Tuple.tupleExact _) (wpAny_newObj_type (wpAny_pure (wpAny_pure ⟨_, rfl, wpAny_pure h⟩)) room))
    | exact wpAny_bind (wpAny_bind (m := Builtin.Tuple.tupleExact _) (wpAny_newObj_type (wpAny_pure ⟨_, rfl, wpAny_pure h⟩) room))
end
section
variable {X : Cx} {e : Expr} {f : EF} {k : Nat} {p1 p2 p3 pos : Pos}
def tRevT (K : PySem.W.Frag) (te : TE) : TE := fun σ H Q => te σ H fun x H1 => ∃ a xs, x = .ref a ∧ SqT K H1 a xs ∧ ∀ p, H1 p = none → Q (.ref p) (upd H1 p (.tup xs.reverse))
theorem pe_revT {te : TE} (he : PE X e te) : PE X (.Subscript e (.Slice none none (some (.UnaryOp .USub (.Constant (.int 1) k p1) p2)) p3) pos) (tRevT X.K te) := by
  refine ⟨fun pins s σ H Q I h => Subscript_ (thn (he.run pins s σ H _ I h) fun v sA ⟨x, HA, IA, rA, a, xs, ex, hx, q⟩ => ?_)⟩
  subst ex
  cases rA
  have minus1 : PO X (some (.UnaryOp .USub (.Constant (.int 1) k p1) p2)) (tPart (tUn (rU fun i => .int (-i)) (tC (.int 1)))) := po_some (pe_un un_neg pe_int)
  refine wpAny_Slice (thn (po_none.run pins sA σ HA (fun o HB => o = none ∧ HB = HA) IA ⟨rfl, rfl⟩) fun vl sB ⟨l, HB, IB, pl, el, eB⟩ => ?_)
  subst el eB
  refine thn (po_none.run pins sB σ HB (fun o HC => o = none ∧ HC = HB) IB ⟨rfl, rfl⟩) fun vu sC ⟨u, HC, IC, pu, eu, eC⟩ => ?_
  subst eu eC
  refine thn (minus1.run pins sC σ HC (fun o HD => o = some (-1) ∧ HD = HC) IC ⟨1, rfl, -1, rfl, rfl, rfl⟩) fun vs sD ⟨o, HD, ID, ps, eo, eD⟩ => ?_
  subst eo eD
  cases pl
  cases pu
  cases ps with
  | int _ tk =>
  have IE : Inv X pins σ HD { sD with heap := sD.heap.push { cls := .type "slice", data := .fields #[.none, .none, .int (-1) tk] } } := ID.kept (t' := sD.toks) fun b ob z => Heap.get?_push_of_some _ z
  obtain ⟨its, r, ht, hz⟩ := IE.tuple hx
  have hl := r.length
  show wpAny (model X.prog X.w) X.A (subscriptTail e (.Slice none none (some (.UnaryOp .USub (.Constant (.int 1) k p1) p2)) p3) (.ref a) (.ref sD.heap.objs.size)) (EP X pins σ Q) X.xe { sD with heap := sD.heap.push { cls := .type "slice", data := .fields #[.none, .none, .int (-1) tk] } }
  refine tail_any (ops := [.ref a, .ref sD.heap.objs.size]) ht.typeIs PyProof.Rows.slot_tuple_getitem.lookup ?_ (by with_unfolding_all rfl)
  refine item_tuple_rev ht (Heap.IsSliceOf.new _ .none .none (.int (-1) tk)) (by rw [List.size_toArray]; omega) ?_
  refine ⟨.ref _, _, IE.laid (t' := sD.toks) (o := .tup xs.reverse) (fun b ob z => Heap.get?_push_of_some _ z) (Nat.le_refl _) ?_, rfl, q _ (IE.hok.fresh (Nat.le_refl _))⟩
  exact ⟨by rw [List.length_reverse]; exact hz, its.reverse, r.reverse, IsTup.new _ _⟩
theorem d_rev (he : PE X e (canW X.K f)) : PE X (.Subscript e (.Slice none none (some (.UnaryOp .USub (.Constant (.int 1) k p1) p2)) p3) pos) (can X.K (e1 revD f)) := by
  refine ⟨fun pins s σ H Q I ⟨G, ρ, c, E, hf, h⟩ => ?_⟩
  obtain ⟨d, hd, hc⟩ := Option.bind_eq_some_iff.mp (show (f ρ).bind revD = some c from hf)
  cases d with
  | list ds =>
    cases hc
    refine (pe_revL (k := k) (p1 := p1) (p2 := p2) (p3 := p3) (pos := pos) he).run pins s σ H Q I ⟨G, ρ, _, E, hd, fun v G1 H1 s1 r1 => ?_⟩
    obtain ⟨a, vs, rfl, ha, ra⟩ := r1.lst s1.gh
    refine ⟨a, vs, rfl, SqL.of ha, fun p hp => ?_⟩
    have s2 := Step.new (o := .lst vs.reverse) s1.gh hp
    exact h _ _ _ (s1.trans s2) (.mk_lst upd_same (Rps.mono s2.g (paired_rev ra)))
  | tuple ds =>
    cases hc
    refine (pe_revT (k := k) (p1 := p1) (p2 := p2) (p3 := p3) (pos := pos) he).run pins s σ H Q I ⟨G, ρ, _, E, hd, fun v G1 H1 s1 r1 => ?_⟩
    obtain ⟨a, vs, rfl, ha, ra, _⟩ := r1.tup s1.gh
    refine ⟨a, vs, rfl, ha, fun p hp => ?_⟩
    have s2 := Step.new (o := .tup vs.reverse) s1.gh hp
    exact h _ _ _ (s1.trans s2) (.mk_tup upd_same (Rps.mono s2.g (paired_rev ra)))
  | _ => cases hc
end
end Cc

-- part Cc11
set_option maxHeartbeats 2000000
namespace Cc
open PySem PySem.Spec PyProof.Rows L2
/-! ### max -/
section
variable {X : Cx}
/-- the most of a tuple of ints -/
def rMaxTI (K : PySem.W.Frag) : List V → Hp → VK → Prop := fun vs H Q => ∃ (a : Addr) (n : Int) (ns : List Int), vs = [V.ref a] ∧ SqT K H a ((n :: ns).map V.int) ∧ Q (.int (ns.foldl max n)) H
theorem ints_reads {h : Heap} : ∀ {its : List Value} {ns : List Int}, IntsAre its ns → ReadsAll h its (ns.map .int) []
  | _, _, .nil => .nil
  | _, _, .cons n t r => ReadsAll.cons (as := []) (.int n t) (ints_reads r)
theorem cr_maxTI {k : Nat} (hc : X.calm = true) (hr : Room k X.A) : CallR X (.builtin "max") (rMaxTI X.K) := by
  intro pins s σ H vs us Q I r h
  obtain ⟨a, n, ns, rfl, ht, q⟩ := h
  obtain ⟨its, rv, hl, _⟩ := I.tuple ht
  rw [Vals.ref1 r]
  have hi : IntsAre its (n :: ns) := by simpa using rv.ints
  refine PySem.W.max_tuple_data (I.ok.hd hc) (show s.heap.IsTuple a its.toArray from hl) (x := .int n) (xs := ns.map .int) (by simpa using ints_reads (h := s.heap) hi) ?_ ?_ fun i v h' tk bs hv hr' hk => ?_
  · refine ⟨fun x hx y hy => ?_, fun x hx => ?_⟩
    · have hx : x ∈ (n :: ns).map PyData.int := hx
      have hy : y ∈ (n :: ns).map PyData.int := hy
      obtain ⟨i, _, rfl⟩ := List.mem_map.mp hx
      obtain ⟨j, _, rfl⟩ := List.mem_map.mp hy
      simp [PySem.W.alike]
    · have hx : x ∈ (n :: ns).map PyData.int := hx
      obtain ⟨i, _, rfl⟩ := List.mem_map.mp hx
      exact fun z => by cases z
  · have hd : ∀ ms : List Int, PyData.depthAll (ms.map .int) = 0 := by
      intro ms
      induction ms with
      | nil => simp [PyData.depthAll]
      | cons m ms ih => simp [PyData.depthAll, PyData.depth, ih]
    have hd1 := hd (n :: ns)
    rw [List.map_cons] at hd1
    rw [hd1]
    have := hr.units
    omega
  · rw [PySem.W.maxD_ints] at hr'
    cases hr' with
    | int _ t => exact ⟨.int _, H, I.kept (t' := tk) hk, ⟨t, rfl⟩, q⟩
/-- max(xs), max(i, j), max(t) -/
def rMaxU (K : PySem.W.Frag) : List V → Hp → VK → Prop := fun vs H Q => (rMax K vs H Q ∨ ∃ i j, vs = [.int i, .int j] ∧ Q (.int (if j > i then j else i)) H) ∨ rMaxTI K vs H Q
theorem cr_maxU {k : Nat} (hc : X.calm = true) (hr : Room k X.A) : CallR X (.builtin "max") (rMaxU X.K) := CallR.or (CallR.or (cr_max hc) (call_max2 hc)) (cr_maxTI hc hr)
theorem foldl_max : ∀ (ns : List Int) (n : Int), ns.foldl max n ∈ n :: ns ∧ ∀ y ∈ n :: ns, y ≤ ns.foldl max n
  | [], n => ⟨List.mem_cons_self, fun y hy => by rw [List.mem_singleton.mp hy]; exact Int.le_refl _⟩
  | m :: ns, n => by
    obtain ⟨h1, h2⟩ := foldl_max ns (max n m)
    have e : (m :: ns).foldl max n = ns.foldl max (max n m) := rfl
    rw [e]
    have h3 := h2 (max n m) List.mem_cons_self
    refine ⟨?_, fun y hy => ?_⟩
    · rcases List.mem_cons.mp h1 with z | z
      · rw [z]
        rcases Int.le_total n m with q | q
        · rw [Int.max_eq_right q]; exact List.mem_cons_of_mem _ List.mem_cons_self
        · rw [Int.max_eq_left q]; exact List.mem_cons_self
      · exact List.mem_cons_of_mem _ (List.mem_cons_of_mem _ z)
    · rcases List.mem_cons.mp hy with rfl | hy
      · omega
      · rcases List.mem_cons.mp hy with rfl | hy
        · omega
        · exact h2 y (List.mem_cons_of_mem _ hy)
theorem cal_max {K : PySem.W.Frag} : Cal K (rMaxU K) Cc.maxD := by
  intro vs G H ds c Q e0 r hg k
  unfold Cc.maxD at hg
  split at hg
  · next es =>
    obtain ⟨ns, hn, hg⟩ := Option.bind_eq_some_iff.mp hg
    obtain ⟨M, hM, rfl⟩ := Option.map_eq_some_iff.mp hg
    rw [intsD_some hn] at r
    obtain ⟨v, rfl, rv⟩ := paired1 r
    obtain ⟨a, xs, rfl, ha, ra⟩ := rv.lst e0
    rw [rps_ints ra] at ha
    cases ns with
    | nil => cases hM
    | cons n ns =>
      cases hM
      obtain ⟨h1, h2⟩ := foldl_max ns n
      refine .inl (.inl ⟨a, n :: ns, rfl, SqL.of ha, by simp, fun m hm hy => ?_⟩)
      have : m = ns.foldl max n := Int.le_antisymm (h2 m hm) (hy _ h1)
      rw [this]
      exact k _ G H (.refl e0) (.int _)
  · next es =>
    obtain ⟨ns, hn, hg⟩ := Option.bind_eq_some_iff.mp hg
    obtain ⟨M, hM, rfl⟩ := Option.map_eq_some_iff.mp hg
    rw [intsD_some hn] at r
    obtain ⟨v, rfl, rv⟩ := paired1 r
    obtain ⟨a, xs, rfl, ha, ra, _⟩ := rv.tup e0
    rw [rps_ints ra] at ha
    cases ns with
    | nil => cases hM
    | cons n ns =>
      cases hM
      exact .inr ⟨a, n, ns, rfl, ha, k _ G H (.refl e0) (.int _)⟩
  · next i j =>
    cases hg
    obtain ⟨v, u, rfl, rv, ru⟩ := paired2 r
    refine .inl (.inr ⟨i, j, by rw [rv.int, ru.int], ?_⟩)
    have : (if j > i then j else i) = max i j := by
      by_cases h : j > i
      · rw [if_pos h, Int.max_eq_right (by omega)]
      · rw [if_neg h, Int.max_eq_left (by omega)]
    rw [this]
    exact k _ G H (.refl e0) (.int _)
  · cases hg
end
end Cc

-- part Cc12
set_option maxHeartbeats 2000000
namespace Cc
open PySem PySem.Spec PyProof.Rows L2 RZ
/-! ### zip of two, each a list (true) or a tuple (false) -/
def SqB (K : PySem.W.Frag) (c : Bool) (H : Hp) (a : Addr) (xs : List V) : Prop := cond c (SqL K H a xs) (SqT K H a xs)
def IsB (c : Bool) (h : Heap) (a : Addr) (its : Array Value) : Prop := cond c (h.IsList a its) (h.IsTuple a its)
def ItB (c : Bool) (h : Heap) (it a : Addr) (i : Nat) : Prop := cond c (h.IsListIter it a i) (h.IsTupleIter it a i)
theorem drawsB {P : Program} {w : World} {A : Around} (c : Bool) (hh : A.handled = none) (it l : Addr) (hne : l ≠ it) (its : Array Value) :
    Draws P w A it [it, l] its.size (fun i v => its[i]? = some v) (fun i h => ItB c h it l i ∧ IsB c h l its) := by
  cases c
  · exact Draws.tuple hh it l hne its
  · exact Draws.list hh it l hne its
theorem ItB.at {c : Bool} {h h' : Heap} {it l : Addr} {i : Nat} (x : ItB c h it l i) (k : ∀ o, h.get? it = some o → h'.get? it = some o) : ItB c h' it l i := by
  cases c
  · exact Heap.IsTupleIter.at x k
  · exact Heap.IsListIter.at x k
theorem ItB.cell {c : Bool} {h : Heap} {it l : Addr} {i : Nat} (x : ItB c h it l i) : ∃ o, h.get? it = some o ∧ ∀ v : Option Value, o.data ≠ Data.cell v := by
  cases c
  · have x : h.IsTupleIter it l i := x
    obtain ⟨o, e, _, d⟩ := x; exact ⟨o, e, fun v q => by rw [d] at q; cases q⟩
  · have x : h.IsListIter it l i := x
    obtain ⟨o, e, _, d⟩ := x; exact ⟨o, e, fun v q => by rw [d] at q; cases q⟩
theorem seqB {X : Cx} {pins : List (Addr × Obj)} {σ : L2.St} {H : Hp} {s : Shared} (I : L2.Inv X pins σ H s) {c : Bool} {a : Addr} {xs : List V} (h : SqB X.K c H a xs) : ∃ its : List Value, Vals xs its ∧ IsB c s.heap a its.toArray ∧ a < s.heap.objs.size := by
  cases c
  · obtain ⟨its, r, p, _⟩ := I.tuple h
    obtain ⟨o, ho, _⟩ := id p
    exact ⟨its, r, p, Heap.lt_size ho⟩
  · obtain ⟨its, r, p, _⟩ := I.list h
    exact ⟨its, r, p.isList, p.lt⟩
theorem seqB_inj {X : Cx} {pins : List (Addr × Obj)} {σ : L2.St} {H : Hp} {s : Shared} (I : L2.Inv X pins σ H s) {c : Bool} {a : Addr} {xs ys : List V} (h : SqB X.K c H a xs) (h' : SqB X.K c H a ys) : xs = ys := by
  cases c
  · exact I.tuple_inj h h'
  · exact I.list_inj h h'
def ItM (K : PySem.W.Frag) (c1 c2 : Bool) (a b : Addr) (N1 N2 : Nat) : It :=
  ⟨fun i H => ∃ xs ys : List V, SqB K c1 H a xs ∧ SqB K c2 H b ys ∧ xs.length = N1 ∧ ys.length = N2 ∧ i < N1 ∧ i < N2,
    fun i H v H' => ∃ T x y, v = .ref T ∧ H T = none ∧ H' = upd H T (.tup [x, y]) ∧ (∀ xs, SqB K c1 H a xs → xs[i]? = some x) ∧ ∀ ys, SqB K c2 H b ys → ys[i]? = some y,
    fun i H => ∃ xs ys : List V, SqB K c1 H a xs ∧ SqB K c2 H b ys ∧ xs.length = N1 ∧ ys.length = N2 ∧ (N1 ≤ i ∨ N2 ≤ i)⟩
theorem turnM {P : Program} {w : World} {K : PySem.W.Frag} {elts : List Expr} {kk : Nat} {tpos : Pos} {c1 c2 : Bool} {a b z TI TO i1 i2 : Addr} {N1 N2 : Nat} (D : ZipSep2 z TI TO i1 i2 [i1, a] [i2, b]) (h12 : i1 ≠ i2) (ha : a ≠ i1) (hb : b ≠ i2) :
    Turn P w K (.Tuple elts kk tpos) (ItM K c1 c2 a b N1 N2) [z, TI, TO, i1, i2] z (fun i h => IsZip h z TI TO .none ∧ IsPair h TI (.ref i1) (.ref i2) ∧ (∃ x y, IsPair h TO x y) ∧ ItB c1 h i1 a i ∧ ItB c2 h i2 b i ∧ i ≤ N1 ∧ i ≤ N2) where
  mem := List.mem_cons_self
  obj := fun i h st c hc => by
    obtain ⟨hz, hTI, ⟨x, y, hTO⟩, h1, h2, _⟩ := st
    simp only [List.mem_cons, List.not_mem_nil, or_false] at hc
    rcases hc with rfl | rfl | rfl | rfl | rfl
    · exact ⟨_, hz, fun v q => nomatch q⟩
    · exact ⟨_, hTI, fun v q => nomatch q⟩
    · exact ⟨_, hTO, fun v q => nomatch q⟩
    · exact h1.cell
    · exact h2.cell
  keep := fun i h h' st k => by
    obtain ⟨hz, hTI, ⟨x, y, hTO⟩, h1, h2, r⟩ := st
    exact ⟨k _ (by simp) _ hz, k _ (by simp) _ hTI, ⟨x, y, k _ (by simp) _ hTO⟩, h1.at fun o q => k _ (by simp) o q, h2.at fun o q => k _ (by simp) o q, r⟩
  item := by
    intro X hP hw hK hc i pins s σ H E I hf st hg
    subst hP hw hK
    obtain ⟨hz, hTI, ⟨x0, y0, hTO⟩, h1, h2, l1, l2⟩ := st
    obtain ⟨xs, ys, hqx, hqy, e1, e2, lt1, lt2⟩ := hg
    obtain ⟨us, rv, p, _⟩ := seqB I hqx
    obtain ⟨ws, rw', p2, _⟩ := seqB I hqy
    have n1 := rv.length
    have n2 := rw'.length
    have zl : z < s.heap.objs.size := Heap.lt_size hz
    have hd := I.ok.hd hc
    refine wpAny_pyNext_zipD2_item D (drawsB c1 (A := X.A.in1) hd i1 a ha us.toArray) (drawsB c2 (A := X.A.in1) hd i2 b hb ws.toArray) hz hTI hTO ⟨h1, p⟩ ⟨h2, p2⟩ (by rw [List.size_toArray]; omega) (by rw [List.size_toArray]; omega) fun u u2 h' tk hu hu2 z' TO' d1 d2 hT hsz hk => ?_
    have hu : us[i]? = some u := by simpa using hu
    have hu2 : ws[i]? = some u2 := by simpa using hu2
    obtain ⟨x, hx⟩ : ∃ x, xs[i]? = some x := ⟨xs[i], List.getElem?_eq_getElem (by omega)⟩
    obtain ⟨y, hy⟩ : ∃ y, ys[i]? = some y := ⟨ys[i], List.getElem?_eq_getElem (by omega)⟩
    obtain ⟨v1, hv1, ru⟩ := rv.get hx
    obtain ⟨v2, hv2, ru2⟩ := rw'.get hy
    rw [hu] at hv1; cases hv1
    rw [hu2] at hv2; cases hv2
    refine ⟨_, rfl, wpAny_letOwnedTupleGo_zip (s := { s with heap := h', toks := tk }) z' fun h'' z'' sb => ?_⟩
    have hT2 : h''.get? s.heap.objs.size = some { cls := .type "tuple", data := .seq #[u, u2] } := (sb.2 _ (Nat.ne_of_gt zl)).trans hT
    have new : ObjOk X.prog X.w (upd H s.heap.objs.size (.tup [x, y])) h'' s.heap.objs.size (.tup [x, y]) :=
      ⟨show 2 ≤ sizeLine by decide, [u, u2], .cons ru (.cons ru2 .nil), ⟨_, hT2, rfl, _, rfl⟩⟩
    have kk' : ∀ c o, c ∉ [z, TI, TO, i1, i2] → s.heap.get? c = some o → h''.get? c = some o := fun c o hn q =>
      (sb.2 c fun e => hn (by simp [e])).trans (hk c o (fun e => hn (by simp [e])) (fun e => hn (by simp [e])) (fun e => hn (by simp [e])) (fun e => hn (by simp [e])) q)
    have I1 : L2.Inv X pins σ (upd H s.heap.objs.size (.tup [x, y])) { s with heap := h'', toks := tk } := I.turnedNew (t' := tk) (ch := [z, TI, TO, i1, i2]) kk' hf (Nat.le_refl _) new
    have f1 : i1 ≠ z := fun e => D.zf1 (by simp [e])
    have f2 : i2 ≠ z := fun e => D.zf2 (by simp [e])
    have g1 : TO ≠ i1 := fun e => D.Tf1 (by simp [e])
    have g2 : TO ≠ i2 := fun e => D.Tf2 (by simp [e])
    refine ⟨.ref s.heap.objs.size, _, I1, rfl, ⟨_, x, y, rfl, I.hok.fresh (Nat.le_refl _), rfl, fun l hl => by rw [seqB_inj I hl hqx]; exact hx, fun l hl => by rw [seqB_inj I hl hqy]; exact hy⟩, ⟨z'', ?_, ⟨u, u2, ?_⟩, ?_, ?_, lt1, lt2⟩, fun c hcm => ?_⟩
    · exact (sb.2 _ D.TIz).trans (hk _ _ D.TIz D.TITO D.TIi1 D.TIi2 hTI)
    · exact (sb.2 _ D.TOz).trans TO'
    · exact d1.1.at fun o q => (sb.2 _ f1).trans q
    · exact d2.1.at fun o q => (sb.2 _ f2).trans q
    · have hlt : c < s.heap.objs.size := by
        simp only [List.mem_cons, List.not_mem_nil, or_false] at hcm
        rcases hcm with rfl | rfl | rfl | rfl | rfl
        · exact zl
        · exact Heap.lt_size hTI
        · exact Heap.lt_size hTO
        · obtain ⟨_, e, _⟩ := h1.cell; exact Heap.lt_size e
        · obtain ⟨_, e, _⟩ := h2.cell; exact Heap.lt_size e
      rw [upd_ne (Nat.ne_of_lt hlt)]
      exact (hf c hcm).1
  done := by
    intro X hP hw hK hc i pins s σ H E I hf st hg
    subst hP hw hK
    obtain ⟨hz, hTI, ⟨x0, y0, hTO⟩, h1, h2, l1, l2⟩ := st
    obtain ⟨xs, ys, hqx, hqy, e1, e2, lt⟩ := hg
    obtain ⟨us, rv, p, _⟩ := seqB I hqx
    obtain ⟨ws, rw', p2, _⟩ := seqB I hqy
    have n1 := rv.length
    have n2 := rw'.length
    have hd := I.ok.hd hc
    refine wpAny_pyNext_zipD2_end D (drawsB c1 (A := X.A.in1) hd i1 a ha us.toArray) (drawsB c2 (A := X.A.in1) hd i2 b hb ws.toArray) hz hTI hTO ⟨h1, p⟩ ⟨h2, p2⟩ (by rw [List.size_toArray]; omega) (by rw [List.size_toArray]; omega) (by rw [List.size_toArray, List.size_toArray]; omega) fun h' tk hk => ⟨rfl, I.turnedL (t' := tk) (ch := [z, TI, TO, i1, i2]) (fun c o hn q => hk c o (fun e => hn (by simp [e])) (fun e => hn (by simp [e])) (fun e => hn (by simp [e])) (fun e => hn (by simp [e])) q) hf⟩
  self := fun A i s Q E st h => wpAny_pyIter_zip st.1 h
def iZipM (K : PySem.W.Frag) (ta : TA) : TI := fun σ H R => ta σ H fun vs H1 => ∃ c1 c2 a b xs ys, vs = [.ref a, .ref b] ∧ SqB K c1 H1 a xs ∧ SqB K c2 H1 b ys ∧ R (ItM K c1 c2 a b xs.length ys.length) H1
def begO (c : Bool) (a : Addr) : Obj := cond c { cls := .type "list_iterator", data := .fields #[.ref a, .int 0 0] } { cls := .type "tuple_iterator", data := .fields #[.ref a, .int 0 0] }
theorem begB (c : Bool) (a : Addr) (its : Array Value) : Begins (.ref a) (begO c a) fun h => IsB c h a its := by
  cases c
  · exact begins_tuple a its
  · exact begins_list a its
theorem begIt {c : Bool} {h : Heap} {it a : Addr} (e : h.get? it = some (begO c a)) : ItB c h it a 0 := by
  cases c
  · exact ⟨_, e, rfl, rfl⟩
  · exact ⟨_, e, rfl, rfl⟩
theorem pi_zipM {X : Cx} {e e2 : Expr} {ta : TA} {p pos tpos : Pos} {elts : List Expr} {kk : Nat} (hg : Gl X "zip") (hm : X.mg "zip" = none) (ha : PA X [e, e2] ta)
    (hs : starEach [e, e2] X.env = (false, eval e X.env) :: starEach [e2] X.env := by rfl) (hpl : (backTo pos (starEach [e2] X.env)).any (·.1) = false := by rfl) :
    PI X (.Tuple elts kk tpos) (.Call (.Name "zip" p) [e, e2] [] pos) (iZipM X.K ta) := by
  refine ⟨fun pins s σ H R I h => Call_ (ld_blt I hg hm PyProof.Rows.boot_zip (PyProof.Rows.callWith_type1 (thn (ha.run pos pins s σ H _ I h) fun us sA ⟨vs, HA, IA, rA, qA⟩ => ?_) hs hpl))⟩
  obtain ⟨c1, c2, a, b, xs, ys, ex, hqx, hqy, q⟩ := qA
  subst ex
  obtain ⟨u, u', rfl, r1, r2⟩ := vals2 rA
  cases r1
  cases r2
  obtain ⟨its, rv, p1, l1⟩ := seqB IA hqx
  obtain ⟨its2, rv2, p2, l2⟩ := seqB IA hqy
  generalize hn : sA.heap.objs.size = N at l1 l2
  have fresh : ∀ c, c ∈ [N + 4, N + 2, N + 3, N, N + 1] → FpOk X pins HA c := fun c hcm => by
    have hle : sA.heap.objs.size ≤ c := by
      simp only [List.mem_cons, List.not_mem_nil, or_false] at hcm
      omega
    exact IA.fpOk hle (IA.hok.fresh hle)
  refine zip_begins2 (begB c1 a its.toArray) (begB c2 b its2.toArray) p1 p2 fun h' hz hTI hTO g1 g2 hsz hk => wpAny_pyIter_zip hz ?_
  rw [hn] at hz hTI hTO g1 g2 ⊢
  have I2 : L2.Inv X pins σ HA { sA with heap := h' } := IA.kept (t' := sA.toks) hk
  have l1 : a < N := l1
  have l2 : b < N := l2
  have B := PySem.W.ktu_apart N a b l1 l2
  have ai1 : a ≠ N := Nat.ne_of_lt l1
  have bi2 : b ≠ N + 1 := Nat.ne_of_lt (Nat.lt_succ_of_lt l2)
  have bi1 : b ≠ N := Nat.ne_of_lt l2
  have ai2 : a ≠ N + 1 := Nat.ne_of_lt (Nat.lt_succ_of_lt l1)
  have two : ∀ {x y z : Addr}, x ≠ y → x ≠ z → x ∉ [y, z] := fun h1 h2 q => by
    rcases List.mem_cons.mp q with q | q
    · exact h1 q
    · exact h2 (List.mem_singleton.mp q)
  have D : ZipSep2 (N + 4) (N + 2) (N + 3) N (N + 1) [N, a] [N + 1, b] :=
    ⟨B.TIz, B.TOz, B.TITO, B.TIi1, List.mem_cons_self, two B.i1z.symm B.l1z.symm, two B.TOi1 B.l1TO.symm, B.TIi2, List.mem_cons_self, two B.i2z.symm B.l2z.symm, two B.TOi2 B.l2TO.symm, two B.i12 bi1.symm, two B.i12.symm ai2.symm⟩
  exact ⟨N + 4, [N + 4, N + 2, N + 3, N, N + 1], _, _, HA, rfl, I2, turnM D B.i12 ai1 bi2, ⟨hz, hTI, ⟨_, _, hTO⟩, begIt g1, begIt g2, Nat.zero_le _, Nat.zero_le _⟩, fresh, q⟩
theorem zw_get {xs ys : List Dt} {i : Nat} {x y : Dt} (hx : xs[i]? = some x) (hy : ys[i]? = some y) : (List.zipWith (fun x y => PyData.tuple [x, y]) xs ys)[i]? = some (.tuple [x, y]) := by
  rw [List.getElem?_zipWith, hx, hy]
theorem itm_data {K : PySem.W.Frag} {G : Hp} {c1 c2 : Bool} {a b : Addr} {xs ys : List V} {ds es : List Dt} (h1 : ∀ H, Ex G H → SqB K c1 H a xs) (h2 : ∀ H, Ex G H → SqB K c2 H b ys) (r1 : Rps K G xs ds) (r2 : Rps K G ys es) :
    ItD K (ItM K c1 c2 a b xs.length ys.length) G (List.zipWith (fun x y => .tuple [x, y]) ds es) where
  go := fun i G' H' e e' hi => by
    rw [List.length_zipWith, ← paired_len r1, ← paired_len r2] at hi
    exact ⟨xs, ys, h1 _ (e.trans e'), h2 _ (e.trans e'), rfl, rfl, by omega, by omega⟩
  yld := fun i G' H' H2 v e e' hi y => by
    obtain ⟨T, x, z, rfl, hT, rfl, y1, y2⟩ := y
    have hx := y1 xs (h1 _ (e.trans e'))
    have hz := y2 ys (h2 _ (e.trans e'))
    obtain ⟨d, hd, rd⟩ := paired_getL r1 hx
    obtain ⟨d2, hd2, rd2⟩ := paired_getL r2 hz
    have s := Step.new (o := .tup [x, z]) e' hT
    exact ⟨.tuple [d, d2], _, zw_get hd hd2, s, .mk_tup upd_same (.cons ((rd.mono e).mono s.g) (.cons ((rd2.mono e).mono s.g) .nil))⟩
  stop := fun i G' H' e e' hi => by
    rw [List.length_zipWith, ← paired_len r1, ← paired_len r2] at hi
    exact ⟨xs, ys, h1 _ (e.trans e'), h2 _ (e.trans e'), rfl, rfl, by omega⟩
theorem seq_items {K : PySem.W.Frag} {G : Hp} {v : V} {d : Dt} {ds : List Dt} (r : Rp K G v d) (h : itemsD (some d) = some ds) : ∃ c a xs, v = .ref a ∧ (∀ H, Ex G H → SqB K c H a xs) ∧ Rps K G xs ds := by
  cases d with
  | list es =>
    cases h
    obtain ⟨a, xs, rfl, ha, ra⟩ := r.of_lst
    exact ⟨true, a, xs, rfl, fun H e => SqL.of (e _ _ ha), ra⟩
  | tuple es =>
    cases h
    obtain ⟨a, xs, rfl, ha, ra⟩ := r.of_tup
    exact ⟨false, a, xs, rfl, fun H e => e.sqt (SqT.of ha), ra⟩
  | _ => cases h
theorem di_zip {X : Cx} {e e2 : Expr} {fs : AF} {p pos tpos : Pos} {elts : List Expr} {kk : Nat} (hg : Gl X "zip") (hm : X.mg "zip" = none) (ha : PA X [e, e2] (canA X.K fs))
    (hs : starEach [e, e2] X.env = (false, eval e X.env) :: starEach [e2] X.env := by rfl) (hpl : (backTo pos (starEach [e2] X.env)).any (·.1) = false := by rfl) : PI X (.Tuple elts kk tpos) (.Call (.Name "zip" p) [e, e2] [] pos) (canI X.K (iF zipD fs)) := by
  refine ⟨fun pins s σ H R I ⟨G, ρ, zs, E, hf, k⟩ => (pi_zipM hg hm ha hs hpl).run pins s σ H R I ?_⟩
  obtain ⟨ds, hds, hf⟩ := Option.bind_eq_some_iff.mp (show (fs ρ).bind zipD = some zs from hf)
  refine ⟨G, ρ, ds, E, hds, fun vs G1 H1 s1 r1 => ?_⟩
  unfold zipD at hf
  split at hf
  · next d d2 =>
    obtain ⟨ds, h1, hf⟩ := Option.bind_eq_some_iff.mp hf
    obtain ⟨es, h2, rfl⟩ := Option.map_eq_some_iff.mp hf
    obtain ⟨v, v2, rfl, rv, rv2⟩ := paired2 r1
    obtain ⟨c1, a, xs, rfl, q1, ra⟩ := seq_items rv h1
    obtain ⟨c2, b, ys, rfl, q2, rb⟩ := seq_items rv2 h2
    exact ⟨c1, c2, a, b, xs, ys, rfl, q1 _ s1.gh, q2 _ s1.gh, k _ G1 H1 s1 (itm_data q1 q2 ra rb)⟩
  · cases hf
end Cc

-- part Cc13
set_option maxHeartbeats 2000000
namespace Cc
open PySem PySem.Spec PyProof.Rows L2
/-! ### the order of tuples of ints -/
theorem lexB_ct {x y : Int} {xs ys : List Int} : lexB (x :: xs) (y :: ys) = true ↔ x < y ∨ (x = y ∧ lexB xs ys = true) := by
  simp [lexB]
theorem lexB_cf {x y : Int} {xs ys : List Int} : lexB (x :: xs) (y :: ys) = false ↔ y < x ∨ (x = y ∧ lexB xs ys = false) := by
  rw [← Bool.not_eq_true, lexB_ct, ← Bool.not_eq_true]
  by_cases h : x = y
  · subst h; simp
  · simp [h]; omega
theorem lexB_asym : ∀ x y : List Int, lexB x y = true → lexB y x = false
  | [], [], h => rfl
  | [], _ :: _, h => rfl
  | _ :: _, [], h => by cases h
  | x :: xs, y :: ys, h => by
    rw [lexB_ct] at h
    rw [lexB_cf]
    rcases h with h | ⟨h, h2⟩
    · exact .inl h
    · exact .inr ⟨h.symm, lexB_asym xs ys h2⟩
theorem lexB_tr : ∀ x y z : List Int, lexB y x = false → lexB z y = false → lexB z x = false
  | [], y, z, h1, h2 => by cases z <;> first | rfl | (cases y <;> first | cases h2 | rfl)
  | x :: xs, [], z, h1, h2 => by cases h1
  | x :: xs, y :: ys, [], h1, h2 => by cases h2
  | x :: xs, y :: ys, z :: zs, h1, h2 => by
    rw [lexB_cf] at h1 h2 ⊢
    rcases h1 with h1 | ⟨h1, h1'⟩
    · rcases h2 with h2 | ⟨h2, h2'⟩
      · exact .inl (by omega)
      · exact .inl (by omega)
    · rcases h2 with h2 | ⟨h2, h2'⟩
      · exact .inl (by omega)
      · exact .inr ⟨by omega, lexB_tr xs ys zs h1' h2'⟩
theorem lexB_eq : ∀ x y : List Int, lexB x y = false → lexB y x = false → x = y
  | [], [], _, _ => rfl
  | [], _ :: _, h, _ => by cases h
  | _ :: _, [], _, h => by cases h
  | x :: xs, y :: ys, h1, h2 => by
    rw [lexB_cf] at h1 h2
    have e : x = y := by omega
    subst e
    rw [lexB_eq xs ys (by rcases h1 with h | h; omega; exact h.2) (by rcases h2 with h | h; omega; exact h.2)]
theorem lexB_irrefl (x : List Int) : lexB x x = false := by
  cases h : lexB x x
  · rfl
  · have := lexB_asym x x h; rw [h] at this; cases this
/-- in order -/
def SrtT (ts : List (List Int)) : Prop := ts.Pairwise fun x y => lexB y x = false
theorem insT_perm (t : List Int) : ∀ ts, (insT t ts).Perm (t :: ts)
  | [] => .refl _
  | x :: xs => by
    unfold insT
    split
    · exact ((insT_perm t xs).cons x).trans (.swap t x xs)
    · exact .refl _
theorem sortT_perm : ∀ ts, (sortT ts).Perm ts
  | [] => .refl _
  | t :: ts => (insT_perm t _).trans ((sortT_perm ts).cons t)
theorem insT_srt (t : List Int) : ∀ {ts}, SrtT ts → SrtT (insT t ts)
  | [], _ => List.pairwise_singleton _ _
  | x :: xs, h => by
    obtain ⟨h1, h2⟩ := List.pairwise_cons.mp h
    unfold insT
    split
    · next hx =>
      refine List.pairwise_cons.mpr ⟨fun y hy => ?_, insT_srt t h2⟩
      rcases List.mem_cons.mp ((insT_perm t xs).mem_iff.mp hy) with rfl | hy
      · exact lexB_asym _ _ hx
      · exact h1 y hy
    · next hx =>
      have hx : lexB x t = false := by simpa using hx
      refine List.pairwise_cons.mpr ⟨fun y hy => ?_, h⟩
      rcases List.mem_cons.mp hy with rfl | hy
      · exact hx
      · exact lexB_tr t x y hx (h1 y hy)
theorem sortT_srt : ∀ ts, SrtT (sortT ts)
  | [] => .nil
  | t :: ts => insT_srt t (sortT_srt ts)
theorem srt_uniq : ∀ {xs ys : List (List Int)}, SrtT xs → SrtT ys → xs.Perm ys → xs = ys
  | [], ys, _, _, p => (List.Perm.nil_eq p)
  | x :: xs, [], _, _, p => absurd p.length_eq (by simp)
  | x :: xs, y :: ys, hx, hy, p => by
    obtain ⟨a1, a2⟩ := List.pairwise_cons.mp hx
    obtain ⟨b1, b2⟩ := List.pairwise_cons.mp hy
    have e : x = y := by
      rcases List.mem_cons.mp (p.mem_iff.mp (List.mem_cons_self (a := x) (l := xs))) with e | m1
      · exact e
      · rcases List.mem_cons.mp (p.mem_iff.mpr (List.mem_cons_self (a := y) (l := ys))) with e | m2
        · exact e.symm
        · exact lexB_eq x y (b1 x m1) (a1 y m2)
    subst e
    rw [srt_uniq a2 b2 ((List.perm_cons x).mp p)]
theorem sortT_eq {xs ys : List (List Int)} (h : SrtT ys) (p : ys.Perm xs) : ys = sortT xs := srt_uniq h (sortT_srt xs) (p.trans (sortT_perm xs).symm)
/-! ### < of two tuples, one kind -/
theorem lexAt_lexB : ∀ (ns ms : List Int) (e r : Nat → Bool) (z : Bool) (i : Nat), (∀ j, j < min ns.length ms.length → e (i + j) = decide (ns.getD j 0 = ms.getD j 0)) → (∀ j, j < min ns.length ms.length → r (i + j) = decide (ns.getD j 0 < ms.getD j 0)) →
    z = decide (ns.length < ms.length) → Ob.lexAt e r z i (min ns.length ms.length) = lexB ns ms
  | [], [], e, r, z, i, _, _, hz => by subst hz; rfl
  | [], m :: ms, e, r, z, i, _, _, hz => by
    subst hz
    rw [show min ([] : List Int).length (m :: ms).length = 0 by simp, Ob.lexAt_zero]
    simp [lexB]
  | n :: ns, [], e, r, z, i, _, _, hz => by
    subst hz
    rw [show min (n :: ns).length ([] : List Int).length = 0 by simp, Ob.lexAt_zero]
    simp [lexB]
  | n :: ns, m :: ms, e, r, z, i, he, hr, hz => by
    have hm : min (n :: ns).length (m :: ms).length = min ns.length ms.length + 1 := by simp [List.length_cons, Nat.succ_min_succ]
    rw [hm] at he hr ⊢
    rw [Ob.lexAt_succ]
    have e0 := he 0 (by omega)
    have r0 := hr 0 (by omega)
    simp only [Nat.add_zero, List.getD_cons_zero] at e0 r0
    rw [e0, r0, lexAt_lexB ns ms e r z (i + 1) (fun j hj => by have := he (j + 1) (by omega); rw [show i + (j + 1) = i + 1 + j by omega] at this; simpa using this)
      (fun j hj => by have := hr (j + 1) (by omega); rw [show i + (j + 1) = i + 1 + j by omega] at this; simpa using this) (by subst hz; simp)]
    simp only [lexB]
    by_cases h : n = m
    · subst h; simp
    · simp [h]
section
variable {prog : Program} {w : World} {A : Around} {E : Value → Shared → Prop} {s : Shared}
theorem oneLt_tup {l b : Addr} {its its2 : Array Value} {ns ms : List Int} {Q : Bool → Shared → Prop} (hl : s.heap.IsTuple l its) (hb : s.heap.IsTuple b its2) (i1 : IntsAre its.toList ns) (i2 : IntsAre its2.toList ms) (hu : A.units < cLine)
    (h : Q (lexB ns ms) s) : wpAny (model prog w) A (oneLt' true (.ref l) (.ref b)) Q E s := by
  obtain ⟨⟨cls, dd, data, sl⟩, ho, hc, n, hd⟩ := id hl
  obtain ⟨⟨cls2, dd2, data2, sl2⟩, ho2, hc2, n2, hd2⟩ := id hb
  simp only at hc hd hc2 hd2
  subst hc hd hc2 hd2
  have e1 : its.size = ns.length := by rw [← Array.length_toList]; exact i1.length
  have e2 : its2.size = ms.length := by rw [← Array.length_toList]; exact i2.length
  have at1 : ∀ j (h1 : j < its.size), ∃ t, its[j] = .int (ns.getD j 0) t := fun j h1 => PyProof.Rows.IntsAre.int_at i1 _ _ (by simp [h1])
  have at2 : ∀ j (h1 : j < its2.size), ∃ t, its2[j] = .int (ms.getD j 0) t := fun j h1 => PyProof.Rows.IntsAre.int_at i2 _ _ (by simp [h1])
  rw [oneLt'_eq]
  simp only [if_true]
  refine wpAny_bind (wpAny_cRoomFor hu ?_)
  refine wpAny_bind (wpAny_callSpecialIfBound?_slot (T := "tuple") ⟨_, ho, rfl⟩ F.slot_tuple_lt ?_)
  refine call_meets F.slot_tuple_lt ⟨_, ho, rfl⟩ F.entry_tuple_lt (F.args_tuple_lt_2 _ _) (Ob.tuple_ltAt l b its its2 n n2 dd dd2 sl sl2 (fun j => decide (ns.getD j 0 = ms.getD j 0)) (fun j => decide (ns.getD j 0 < ms.getD j 0))) ⟨ho, ho2, fun j h1 h2 => ?_, fun j h1 h2 _ => ?_, ?_⟩
  · obtain ⟨t, et⟩ := at1 j h1
    obtain ⟨t', et'⟩ := at2 j h2
    rw [et, et']
    have z : (ns.getD j 0 == ms.getD j 0) = decide (ns.getD j 0 = ms.getD j 0) := Bool.beq_eq_decide_eq _ _
    rw [← z]
    exact SeqAt.EqAt.int_int _ _ _ _
  · obtain ⟨t, et⟩ := at1 j h1
    obtain ⟨t', et'⟩ := at2 j h2
    rw [et, et']
    exact Ob.RcOp.lt_int _ _ _ _
  · rw [e1, e2, lexAt_lexB ns ms _ _ _ 0 (fun j _ => by rw [Nat.zero_add]) (fun j _ => by rw [Nat.zero_add]) rfl]
    exact wpAny_truthy_bool h
/-! ### sorted of a list of tuples of ints -/
def ltT (h : Heap) (u v : Value) : Bool := lexB (TS.intsOf h u) (TS.intsOf h v)
theorem swo_ltT (h : Heap) : SrtO.Swo (ltT h) := ⟨fun x y e => lexB_asym _ _ e, fun x y z e1 e2 => lexB_tr _ _ _ e1 e2⟩
def fstV (h : Heap) (v : Value) : Option Value := match v with
  | .ref a => match h.get? a with
    | some o => match o.data with
      | .seq xs _ => xs[0]?
      | _ => none
    | none => none
  | _ => none
theorem fst_nil {h : Heap} {v : Value} (t : TS.TupInts h v []) : fstV h v = none := by
  obtain ⟨a, xs, rfl, ⟨o, ho, hc, n, hd⟩, i⟩ := t
  simp only [fstV, ho, hd]
  have : xs.toList.length = 0 := i.length
  have : xs.size = 0 := by rw [← Array.length_toList]; exact this
  exact Array.getElem?_eq_none (by omega)
theorem fst_mapM : ∀ (vs : List Value) {Q : List (Option Value) → Shared → Prop}, (∀ v ∈ vs, ∃ ns, TS.TupInts s.heap v ns) → Q (vs.map (fstV s.heap)) s → wpAny (model prog w) A (vs.mapM firstOfTuple') Q E s
  | [], _, _, h => by rw [List.mapM_nil]; exact wpAny_pure h
  | v :: vs, Q, t, h => by
    obtain ⟨ns, a, xs, rfl, ⟨o, ho, hc, n, hd⟩, i⟩ := t v List.mem_cons_self
    rw [List.mapM_cons]
    refine wpAny_bind ?_
    rw [PySem.W.kas_first_eq]
    refine wpAny_bind (PySem.W.Looks.here (show PySem.W.Looks (model prog w) s.heap (typeOf (.ref a)) o.cls from (PySem.W.Looks.ld ho).andThen .now) ?_)
    rw [hc, if_neg (by first | decide | simp)]
    refine wpAny_bind (listItems_at ho hd (wpAny_pure ?_))
    have e : fstV s.heap (.ref a) = xs[0]? := by simp only [fstV, ho, hd]
    rw [List.map_cons, e] at h
    exact wpAny_bind (fst_mapM vs (Q := fun bs s' => wpAny (model prog w) A (pure (xs[0]? :: bs)) Q E s') (fun u hu => t u (List.mem_cons_of_mem _ hu)) (wpAny_pure h))
/-- the kind of keys that begin with the empty tuple -/
theorem nil_kind {v0 : Value} {vs : List Value} {Q : SortKind → Shared → Prop} (h0 : TS.TupInts s.heap v0 []) (hs : ∀ v ∈ v0 :: vs, ∃ ns, TS.TupInts s.heap v ns) (h : Q oneType' s) : wpAny (model prog w) A (keyKind' (v0 :: vs).toArray) Q E s := by
  rw [keyKind'_eq, List.mapM_toArray, map_eq_pure_bind]
  refine wpAny_bind (wpAny_bind (fst_mapM _ hs (wpAny_pure ?_)))
  rw [List.map_cons, fst_nil h0]
  rw [if_neg (by simp), if_neg (by simp)]
  rw [oneTypeOnly'_eq, List.mapM_toArray, map_eq_pure_bind]
  refine wpAny_bind (wpAny_bind (wpAny_bind (PySem.W.kas_mapM (r := Value.type "tuple") _ (fun v hv Q' hq => ?_) (wpAny_pure ?_))))
  · obtain ⟨ns, a, xs, rfl, ⟨o, ho, hc, n, hd⟩, i⟩ := hs v hv
    have := PySem.W.Looks.here (M := model prog w) (A := A) (E := E) (Q := Q') (show PySem.W.Looks (model prog w) s.heap (typeOf (.ref a)) o.cls from (PySem.W.Looks.ld ho).andThen .now)
    rw [hc] at this
    exact this hq
  · have hall : ((List.map (fun _ => Value.type "tuple") (v0 :: vs)).toArray.all fun x => x == Value.type "tuple") = true := by
      simp only [List.all_toArray, List.all_map, List.all_eq_true]
      intro _ _
      exact (by decide : (Value.type "tuple" == Value.type "tuple") = true)
    have h0 : (List.map (fun _ => Value.type "tuple") (v0 :: vs)).toArray[0]? = some (Value.type "tuple") := by simp
    rw [h0]
    simp only [hall, if_true]
    exact wpAny_pure (wpAny_pure h)
/-- the first is the empty one -/
theorem nil_sortable {a : Addr} {v0 : Value} {vs : List Value} (h0 : TS.TupInts s.heap v0 []) (hs : ∀ v ∈ v0 :: vs, ∃ ns, TS.TupInts s.heap v ns) (ha : ∀ o, s.heap.get? a = some o → o.cls ≠ .type "tuple") (hu : A.units < cLine) : SrtO.SortableO prog w A s a (v0 :: vs) (ltT s.heap) := by
  intro h' keep
  have kp : ∀ b o, s.heap.get? b = some o → o.cls = .type "tuple" → h'.get? b = some o := fun b o e c => keep b o (fun z => by subst z; exact ha o e c) e
  have hs' : ∀ v ∈ v0 :: vs, ∃ ns, TS.TupInts h' v ns ∧ TS.intsOf s.heap v = ns := fun v hv => by
    obtain ⟨ns, t⟩ := hs v hv
    exact ⟨ns, t.keeps kp, t.ints⟩
  refine ⟨oneType', fun Q E hq => nil_kind (s := { s with heap := h' }) (h0.keeps kp) (fun v hv => let ⟨ns, t, _⟩ := hs' v hv; ⟨ns, t⟩) hq, ?_⟩
  intro p q hm hm'
  show wpAny (model prog w) A (keyLt' oneType' p.1 q.1) (fun r s' => s' = { s with heap := h' } ∧ r = ltT s.heap p.1 q.1) (fun _ _ => False) { s with heap := h' }
  obtain ⟨ns, t1, e1⟩ := hs' _ hm
  obtain ⟨ms, t2, e2⟩ := hs' _ hm'
  unfold ltT
  rw [e1, e2]
  obtain ⟨l, its, el, hl, i1⟩ := t1
  obtain ⟨b, its2, eb, hb, i2⟩ := t2
  rw [el, eb, keyLt'_oneType]
  exact oneLt_tup hl hb i1 i2 hu ⟨rfl, rfl⟩
theorem isPair_of {h : Heap} {v : Value} {x y : Int} (t : TS.TupInts h v [x, y]) : Srt.IsPair h v x y := by
  obtain ⟨a, xs, rfl, ⟨o, ho, hc, n, hd⟩, i⟩ := t
  obtain ⟨ys⟩ := xs
  cases i with
  | cons x t i =>
    cases i with
    | cons y u i =>
      cases i
      exact ⟨a, o, t, u, n, rfl, ho, hc, hd⟩
theorem pair_lt {ns ms : List Int} (h1 : ns.length = 2) (h2 : ms.length = 2) : SrtO.lexB (ns.getD 0 0, ns.getD 1 0) (ms.getD 0 0, ms.getD 1 0) = lexB ns ms := by
  match ns, h1, ms, h2 with
  | [x, y], _, [x', y'], _ =>
    simp only [SrtO.lexB, lexB, List.getD_cons_zero, List.getD_cons_succ]
    by_cases e : x = x' <;> simp [e]
/-- all are pairs -/
theorem pair_sortable {a : Addr} {vs : List Value} (hs : ∀ v ∈ vs, ∃ ns, TS.TupInts s.heap v ns ∧ ns.length = 2) (ha : ∀ o, s.heap.get? a = some o → o.cls ≠ .type "tuple") (h0 : 0 < vs.length) : SrtO.SortableO prog w A s a vs (ltT s.heap) := by
  have key := SrtO.pairs_sortableO (prog := prog) (w := w) (A := A) (s := s) (a := a) (vs := vs) (k := fun v => ((TS.intsOf s.heap v).getD 0 0, (TS.intsOf s.heap v).getD 1 0)) h0 (fun v hv => by
    obtain ⟨ns, t, hl⟩ := hs v hv
    have e := t.ints
    match ns, hl with
    | [x, y], _ =>
      rw [e]
      exact isPair_of t) ha
  intro h' keep
  obtain ⟨κ, h1, h2⟩ := key h' keep
  refine ⟨κ, h1, fun p q hm hm' => ?_⟩
  have := h2 p q hm hm'
  obtain ⟨ns, t, hl⟩ := hs _ hm
  obtain ⟨ms, t', hl'⟩ := hs _ hm'
  have e : SrtO.lexB ((TS.intsOf s.heap p.1).getD 0 0, (TS.intsOf s.heap p.1).getD 1 0) ((TS.intsOf s.heap q.1).getD 0 0, (TS.intsOf s.heap q.1).getD 1 0) = ltT s.heap p.1 q.1 := by
    unfold ltT
    rw [t.ints, t'.ints]
    exact pair_lt hl hl'
  refine wpAny_mono this (fun r s' ⟨q1, q2⟩ => ⟨q1, q2.trans e⟩) fun _ _ z => z
end
section
variable {X : Cx}
def sOkV (ts : List (List Int)) : Prop := (∀ t ∈ ts, t.length = 2) ∨ ∃ r, ts = [] :: r
theorem sOk_iff {ts : List (List Int)} (h : sOk ts = true) : sOkV ts := by
  unfold sOk at h
  rw [Bool.or_eq_true, List.all_eq_true] at h
  rcases h with h | h
  · exact .inl fun t ht => by simpa using h t ht
  · match ts, h with
    | [] :: r, _ => exact .inr ⟨r, rfl⟩
def rSortedT (K : PySem.W.Frag) : List V → Hp → VK → Prop := fun vs H Q => ∃ (a : Addr) (ks : List (Addr × List Int)), vs = [V.ref a] ∧ SqL K H a (ks.map fun p => V.ref p.1) ∧ (∀ p ∈ ks, SqT K H p.1 (p.2.map V.int)) ∧ sOkV (ks.map (·.2)) ∧
  ∀ (qs : List (Addr × List Int)) (p : Addr), (∀ q ∈ qs, SqT K H q.1 (q.2.map V.int) ∧ q ∈ ks) → qs.map (·.2) = sortT (ks.map (·.2)) → H p = none → Q (.ref p) (upd H p (.lst (qs.map fun p => V.ref p.1)))
theorem cr_sortedU {k : Nat} (hc : X.calm = true) (hr : Room k X.A) : CallR X (.builtin "sorted") (rSortedT X.K) := by
  intro pins s σ H vs us Q I r h
  obtain ⟨a, ks, rfl, hs, hk, ok, q⟩ := h
  obtain ⟨its, rv, hl, hz⟩ := I.list hs
  rw [Vals.ref1 r]
  have er : its = ks.map fun p => Value.ref p.1 := refs_of_vals rv
  subst er
  have hT : ∀ p ∈ ks, TS.TupInts s.heap (.ref p.1) p.2 := fun p hp => tupI_raw I (hk p hp)
  have hT' : ∀ v ∈ ks.map (fun p => Value.ref p.1), ∃ ns, TS.TupInts s.heap v ns := fun v hv => by
    obtain ⟨p, hp, rfl⟩ := List.mem_map.mp hv
    exact ⟨p.2, hT p hp⟩
  have units : X.A.in1.in1.units < cLine := by have := hr.units; show X.A.units + 1 + 1 < cLine; omega
  refine SrtO.sorted_ord (swo_ltT s.heap) hl.isList (by rw [List.length_map] at hz ⊢; exact hz) (fun h2 h₁ a' ha' kk => ?_) fun out h1 h2 => ?_
  · have kp : ∀ b o, s.heap.get? b = some o → o.cls = .type "tuple" → h₁.get? b = some o := fun b o e _ => (kk b o e).2
    have nl : ∀ o, h₁.get? a' = some o → o.cls ≠ .type "tuple" := fun o e c => by
      rw [ha'] at e
      cases e
      exact absurd (Value.type.inj c) (by decide)
    have intz : ∀ v ∈ ks.map (fun p => Value.ref p.1), TS.intsOf h₁ v = TS.intsOf s.heap v := fun v hv => by
      obtain ⟨ns, t⟩ := hT' v hv
      rw [(t.keeps kp).ints, t.ints]
    have conv : SrtO.SortableO X.prog X.w X.A.in1.in1 { s with heap := h₁ } a' (ks.map fun p => Value.ref p.1) (ltT h₁) → SrtO.SortableO X.prog X.w X.A.in1.in1 { s with heap := h₁ } a' (ks.map fun p => Value.ref p.1) (ltT s.heap) := by
      intro S h' keep
      obtain ⟨κ, c1, c2⟩ := S h' keep
      refine ⟨κ, c1, fun p q hm hm' => wpAny_mono (c2 p q hm hm') (fun r s' ⟨e1, e2⟩ => ⟨e1, ?_⟩) fun _ _ z => z⟩
      rw [e2]
      show ltT h₁ p.1 q.1 = ltT s.heap p.1 q.1
      unfold ltT
      rw [intz _ hm, intz _ hm']
    refine conv ?_
    rcases ok with ok | ⟨r, ok⟩
    · refine pair_sortable (s := { s with heap := h₁ }) (fun v hv => ?_) nl (by omega)
      obtain ⟨p, hp, rfl⟩ := List.mem_map.mp hv
      exact ⟨p.2, (hT p hp).keeps kp, ok _ (List.mem_map.mpr ⟨p, hp, rfl⟩)⟩
    · cases ks with
      | nil => cases ok
      | cons p0 ks =>
        rw [List.map_cons] at ok
        have e0 : p0.2 = [] := (List.cons.inj ok).1
        refine nil_sortable (s := { s with heap := h₁ }) (v0 := .ref p0.1) ?_ (fun v hv => ?_) nl units
        · have := (hT p0 List.mem_cons_self).keeps kp
          rwa [e0] at this
        · obtain ⟨ns, t⟩ := hT' v hv
          exact ⟨ns, t.keeps kp⟩
  · obtain ⟨ep, he'⟩ := PyProof.Rows.sortedAll_at s.heap (ks.map fun p => Value.ref p.1) out.toArray
    have adr : ∀ u ∈ out, ∃ p ∈ ks, u = Value.ref p.1 := fun u hu => by
      obtain ⟨p, hp, e⟩ := List.mem_map.mp (h2.perm.mem_iff.mp hu)
      exact ⟨p, hp, e.symm⟩
    have toK : ∃ qs : List (Addr × List Int), out = qs.map (fun p => Value.ref p.1) ∧ (∀ q ∈ qs, q ∈ ks) ∧ qs.map (·.2) = out.map (TS.intsOf s.heap) := by
      have : ∀ l : List Value, (∀ u ∈ l, ∃ p ∈ ks, u = Value.ref p.1) → ∃ qs : List (Addr × List Int), l = qs.map (fun p => Value.ref p.1) ∧ (∀ q ∈ qs, q ∈ ks) ∧ qs.map (·.2) = l.map (TS.intsOf s.heap) := by
        intro l
        induction l with
        | nil => intro _; exact ⟨[], rfl, (fun q h => nomatch h), rfl⟩
        | cons u l ih =>
          intro hl
          obtain ⟨p, hp, rfl⟩ := hl u List.mem_cons_self
          obtain ⟨qs, e1, e2, e3⟩ := ih fun v hv => hl v (List.mem_cons_of_mem _ hv)
          refine ⟨p :: qs, by rw [List.map_cons, e1], fun q hq => ?_, ?_⟩
          · rcases List.mem_cons.mp hq with rfl | hq
            · exact hp
            · exact e2 q hq
          · rw [List.map_cons, List.map_cons, e3, (hT p hp).ints]
      exact this out adr
    obtain ⟨qs, e1, e2, e3⟩ := toK
    have so : qs.map (·.2) = sortT (ks.map (·.2)) := by
      refine sortT_eq ?_ ?_
      · rw [e3]
        show List.Pairwise _ _
        rw [List.pairwise_map]
        exact h1.imp fun h => h
      · rw [e3]
        have := h2.perm.map (TS.intsOf s.heap)
        refine this.trans (List.Perm.of_eq ?_)
        rw [List.map_map]
        refine List.map_congr_left fun p hp => ?_
        exact (hT p hp).ints
    have hlen : (qs.map fun p => V.ref p.1).length ≤ sizeLine := by
      have := h2.perm.length_eq
      rw [e1, List.length_map, List.length_map] at this
      rw [List.length_map, this]
      rw [List.length_map] at hz
      exact hz
    have vals : Vals (qs.map fun p => V.ref p.1) out := by
      rw [e1]
      have : ∀ l : List (Addr × List Int), Vals (l.map fun p => V.ref p.1) (l.map fun p => Value.ref p.1) := by
        intro l
        induction l with
        | nil => exact .nil
        | cons p l ih => exact .cons (show RelV (.ref p.1) (.ref p.1) from rfl) ih
      exact this qs
    exact ⟨.ref _, upd H (s.heap.objs.size + 1) (.lst (qs.map fun p => V.ref p.1)), I.laid (t' := s.toks) (fun _ _ => PyProof.Rows.sortedAll_old) (Nat.le_succ _) ⟨hlen, out, ep, vals, he'⟩, rfl, q qs _ (fun p hp => ⟨hk p (e2 p hp), e2 p hp⟩) so (I.hok.fresh (Nat.le_succ _))⟩
theorem tups_rps {K : PySem.W.Frag} {G : Hp} : ∀ {qs : List (Addr × List Int)}, (∀ q ∈ qs, G q.1 = some (.tup (q.2.map V.int))) → Rps K G (qs.map fun p => V.ref p.1) ((qs.map (·.2)).map tupI)
  | [], _ => .nil
  | q :: qs, h => by
    refine .cons (.mk_tup (h q List.mem_cons_self) ?_) (tups_rps fun p hp => h p (List.mem_cons_of_mem _ hp))
    have : ∀ l : List Int, Rps K G (l.map V.int) (l.map .int) := by
      intro l
      induction l with
      | nil => exact .nil
      | cons i l ih => exact .cons (.int i) ih
    exact this q.2
theorem cal_sorted {K : PySem.W.Frag} : Cal K (rSortedT K) sortedD := by
  intro vs G H ds c Q e0 r hg k
  unfold sortedD at hg
  split at hg
  · next es =>
    obtain ⟨ts, ht, hg⟩ := Option.bind_eq_some_iff.mp hg
    split at hg
    · next ok =>
      cases hg
      rw [Bool.and_eq_true] at ok
      rw [tupsD_some ht] at r
      obtain ⟨v, rfl, rv⟩ := paired1 r
      obtain ⟨a, xs, rfl, ha, ra⟩ := rv.lst e0
      obtain ⟨ks, rfl, e2, hk⟩ := rps_tups ra
      subst e2
      refine ⟨a, ks, rfl, SqL.of ha, fun p hp => e0.sqt (SqT.of (hk p hp)), sOk_iff ok.1, fun qs p hq so hp => ?_⟩
      have s := Step.new (o := .lst (qs.map fun p => V.ref p.1)) e0 hp
      have rp : Rps K G (qs.map fun p => V.ref p.1) ((sortT (ks.map (·.2))).map tupI) := by
        rw [← so]
        exact tups_rps fun q hqm => hk q (hq q hqm).2
      exact k _ _ _ s (.mk_lst upd_same (Rps.mono s.g rp))
    · cases hg
  · cases hg
end
end Cc

-- part Cc14
set_option maxHeartbeats 2000000
namespace Cc
open PySem PySem.Spec PyProof.Rows L2
/-! ### a, b = e1, e2 -/
def sPar (i j : Nat) (fs : AF) : SF := fun ρ => (fs ρ).bind fun ds => match ds with
  | [d, e] => some (.nx ((ρ.set i (.val d)).set j (.val e)))
  | _ => none
section
variable {X : Cx}
theorem ds_par {i j : Nat} {x y : Str} {a b : Expr} {fs : AF} {px py pt pos : Pos} {kt k2 pt2} (hc : X.calm = true) (hN : X.N.Nodup) (hi : X.N[i]? = some x) (hj : X.N[j]? = some y) (hij : i ≠ j)
    (hx : X.env.scope.names.lookup x = some .local) (hy : X.env.scope.names.lookup y = some .local) (ha : PA X [a, b] (canA X.K fs))
    (hw : swappedStores [.Tuple [.Name x px, .Name y py] kt pt] (.Tuple [a, b] k2 pt2) X.env = pure (some [x, y]))
    (hs : swapsWithSole [.Tuple [.Name x px, .Name y py] kt pt] (.Tuple [a, b] k2 pt2) pos.line X.env = pure false := by rfl) :
    PS X (.Assign [.Tuple [.Name x px, .Name y py] kt pt] (.Tuple [a, b] k2 pt2) pos) (canS X.K (sPar i j fs)) :=
  ps_imp (ps_par hc hN hi hj hij hx hy ha hw hs) fun D σ H ⟨G0, H0, G, ρ, r, S, hb, k⟩ => by
    unfold sPar at hb
    obtain ⟨ds, hd, hb⟩ := Option.bind_eq_some_iff.mp hb
    split at hb
    · next d e =>
      cases hb
      refine ⟨G, ρ, _, S.env, hd, fun vs G1 H1 s1 r1 => ?_⟩
      obtain ⟨v, w, rfl, rv, rw'⟩ := paired2 r1
      exact ⟨v, w, rfl, k _ G1 H1 s1.g (((S.step s1).set rv).set rw')⟩
    · cases hb
end
/-! ### min of a list of tuples of ints -/
theorem lexLt_keys : ∀ s t : List Int, PyProof.Rows.lexLt PyProof.Rows.itemOrd (PySem.W.keyToksAll (s.map .int)) (PySem.W.keyToksAll (t.map .int)) = lexB s t
  | [], [] => by
    rw [PyProof.Rows.lex_irrefl]; rfl
  | [], t :: ts => by
    simp only [List.map_nil, List.map_cons, PySem.W.keyToksAll]
    rw [PyProof.Rows.lex_diff (by simp)]
    rfl
  | s :: ss, [] => by
    simp only [List.map_nil, List.map_cons, PySem.W.keyToksAll]
    rw [PyProof.Rows.lex_diff (by simp)]
    rfl
  | s :: ss, t :: ts => by
    simp only [List.map_cons, PySem.W.keyToksAll, PySem.W.keyToks]
    rw [PyProof.Rows.lex_self]
    show PyProof.Rows.lexLt PyProof.Rows.itemOrd (Sum.inl s :: PySem.W.keyToksAll (ss.map .int)) (Sum.inl t :: PySem.W.keyToksAll (ts.map .int)) = _
    rw [PyProof.Rows.lex_cons, lexLt_keys ss ts]
    show (decide (s < t) || (!decide (t < s) && lexB ss ts)) = (decide (s < t) || (decide (s = t) && lexB ss ts))
    by_cases h : s = t
    · subst h; simp
    · by_cases h2 : s < t
      · simp [h2]
      · have h3 : t < s := by omega
        simp [h, h2, h3]
theorem dataLt_tupI (s t : List Int) : PySem.W.dataLt (tupI s) (tupI t) = lexB s t := by
  unfold tupI
  rw [PySem.W.dataLt_tuple, lexLt_keys]
theorem minD_tups (t : List Int) : ∀ ts : List (List Int), PySem.W.minD (tupI t) (ts.map tupI) = tupI (minT t ts) := by
  intro ts
  induction ts generalizing t with
  | nil => rfl
  | cons x xs ih =>
    show PySem.W.minD (if PySem.W.dataLt (tupI x) (tupI t) then tupI x else tupI t) (xs.map tupI) = tupI (minT (if lexB x t then x else t) xs)
    rw [dataLt_tupI, ← ih]
    cases lexB x t <;> rfl
theorem alike_ints' : ∀ xs ys : List Int, PySem.W.alikeAll (xs.map .int) (ys.map .int) = true
  | [], _ => by simp [PySem.W.alikeAll]
  | _ :: _, [] => by simp [PySem.W.alikeAll]
  | x :: xs, y :: ys => by
    show PySem.W.alikeAll (.int x :: xs.map .int) (.int y :: ys.map .int) = true
    rw [PySem.W.alikeAll, alike_ints' xs ys]
    simp [PySem.W.alike]
theorem depth_ints' : ∀ xs : List Int, PyData.depthAll (xs.map .int) = 0
  | [] => by simp [PyData.depthAll]
  | x :: xs => by simp [PyData.depthAll, PyData.depth, depth_ints' xs]
theorem depth_tups' : ∀ ts : List (List Int), PyData.depthAll (ts.map tupI) ≤ 1
  | [] => by simp [PyData.depthAll]
  | t :: ts => by
    have := depth_tups' ts
    simp [PyData.depthAll, tupI, PyData.depth, depth_ints']
    omega
theorem reads_tup {h : Heap} {v : Value} {ns : List Int} (t : TS.TupInts h v ns) : Reads h v (tupI ns) [] := by
  obtain ⟨a, xs, rfl, ⟨o, ho, hc, n, hd⟩, i⟩ := t
  exact .tuple ho hc hd (ints_reads i)
theorem reads_tups {h : Heap} : ∀ {vs : List Value} {ts : List (List Int)}, vs.length = ts.length → (∀ (i : Nat) (v : Value) (t : List Int), vs[i]? = some v → ts[i]? = some t → TS.TupInts h v t) → ReadsAll h vs (ts.map tupI) []
  | [], [], _, _ => .nil
  | v :: vs, t :: ts, hl, hs => ReadsAll.cons (as := []) (reads_tup (hs 0 v t rfl rfl)) (reads_tups (by simpa using hl) fun i v t h1 h2 => hs (i + 1) v t h1 h2)
  | [], _ :: _, hl, _ => by simp at hl
  | _ :: _, [], hl, _ => by simp at hl
theorem ints_of_reads {h : Heap} : ∀ {vs : List Value} {ns : List Int} {as : List Addr}, ReadsAll h vs (ns.map .int) as → IntsAre vs ns
  | [], [], _, _ => .nil
  | _, n :: ns, _, r => by
    have r' : ReadsAll h _ (.int n :: ns.map .int) _ := r
    cases r' with
    | cons h1 h2 =>
      cases h1
      exact .cons _ _ (ints_of_reads h2)
  | _ :: _, [], _, r => by
    have r' : ReadsAll h _ [] _ := r
    cases r'
theorem tup_of_reads {h : Heap} {v : Value} {ns : List Int} {as : List Addr} (r : Reads h v (tupI ns) as) : TS.TupInts h v ns := by
  unfold tupI at r
  cases r with
  | tuple h1 h2 h3 h4 => exact ⟨_, _, rfl, ⟨_, h1, h2, _, h3⟩, ints_of_reads h4⟩
section
variable {X : Cx}
def rMinT (K : PySem.W.Frag) : List V → Hp → VK → Prop := fun vs H Q => ∃ (a : Addr) (k0 : Addr × List Int) (ks : List (Addr × List Int)), vs = [V.ref a] ∧ SqL K H a ((k0 :: ks).map fun p => V.ref p.1) ∧ (∀ p ∈ k0 :: ks, SqT K H p.1 (p.2.map V.int)) ∧
  ∀ q ∈ k0 :: ks, q.2 = minT k0.2 (ks.map (·.2)) → Q (.ref q.1) H
theorem cr_minU {k : Nat} (hc : X.calm = true) (hr : Room k X.A) : CallR X (.builtin "min") (rMinT X.K) := by
  intro pins s σ H vs us Q I r h
  obtain ⟨a, k0, ks, rfl, hs, hk, q⟩ := h
  obtain ⟨its, rv, hl, hz⟩ := I.list hs
  rw [Vals.ref1 r]
  have er : its = (k0 :: ks).map fun p => Value.ref p.1 := refs_of_vals rv
  subst er
  have hT : ∀ p ∈ k0 :: ks, TS.TupInts s.heap (.ref p.1) p.2 := fun p hp => tupI_raw I (hk p hp)
  have rd : ReadsAll s.heap ((k0 :: ks).map fun p => Value.ref p.1) (((k0 :: ks).map (·.2)).map tupI) [] := reads_tups (by simp) fun i v t h1 h2 => by
    rw [List.getElem?_map] at h1 h2
    cases e : (k0 :: ks)[i]? with
    | none => rw [e] at h1; cases h1
    | some p =>
      rw [e] at h1 h2
      cases h1
      cases h2
      exact hT p (List.mem_of_getElem? e)
  refine PySem.W.min_list_data (I.ok.hd hc) hl.isList (x := tupI k0.2) (xs := (ks.map (·.2)).map tupI) (as := []) (by simpa using rd) ?_ ?_ fun i v h' tk bs hv hr' hk' => ?_
  · refine ⟨fun x hx y hy => ?_, fun x hx => ?_⟩
    · have hx : x ∈ (k0.2 :: ks.map (·.2)).map tupI := hx
      have hy : y ∈ (k0.2 :: ks.map (·.2)).map tupI := hy
      obtain ⟨s, _, rfl⟩ := List.mem_map.mp hx
      obtain ⟨t, _, rfl⟩ := List.mem_map.mp hy
      show PySem.W.alike (.tuple _) (.tuple _) = true
      rw [PySem.W.alike]
      exact alike_ints' s t
    · have hx : x ∈ (k0.2 :: ks.map (·.2)).map tupI := hx
      obtain ⟨s, _, rfl⟩ := List.mem_map.mp hx
      exact fun z => by cases z
  · have hd := depth_tups' (k0.2 :: ks.map (·.2))
    rw [List.map_cons] at hd
    have := hr.units
    omega
  · have hv : ((k0 :: ks).map fun p => Value.ref p.1)[i]? = some v := by simpa using hv
    rw [List.getElem?_map] at hv
    cases e : (k0 :: ks)[i]? with
    | none => rw [e] at hv; cases hv
    | some p =>
      rw [e] at hv
      cases hv
      have hp := List.mem_of_getElem? e
      rw [minD_tups] at hr'
      have t1 := (tup_of_reads hr').ints
      have t2 := ((hT p hp).keeps fun b o e _ => hk' b o e).ints
      have t2' : TS.intsOf h' (.ref p.1) = p.2 := t2
      rw [t1] at t2'
      exact ⟨.ref p.1, H, I.kept (t' := tk) hk', rfl, q p hp t2'.symm⟩
theorem cal_min {K : PySem.W.Frag} : Cal K (rMinT K) minD := by
  intro vs G H ds c Q e0 r hg k
  unfold minD at hg
  split at hg
  · next es =>
    obtain ⟨ts, ht, hg⟩ := Option.bind_eq_some_iff.mp hg
    rw [tupsD_some ht] at r
    obtain ⟨v, rfl, rv⟩ := paired1 r
    obtain ⟨a, xs, rfl, ha, ra⟩ := rv.lst e0
    obtain ⟨ks, rfl, e2, hk⟩ := rps_tups ra
    subst e2
    cases ks with
    | nil => cases hg
    | cons k0 ks =>
      simp only [List.map_cons] at hg
      split at hg
      · cases hg
        refine ⟨a, k0, ks, rfl, SqL.of ha, fun p hp => e0.sqt (SqT.of (hk p hp)), fun q hq e => ?_⟩
        rw [← e] at k
        have rp := tups_rps (K := K) (G := G) (qs := [q]) fun p hp => by rw [List.mem_singleton.mp hp]; exact hk q hq
        cases rp with
        | cons r1 _ => exact k _ G H (.refl e0) r1
      · cases hg
  · cases hg
/-! ### t > u of two tuples of ints -/
def rGtT (K : PySem.W.Frag) : R2 := fun x y H Q => ∃ (a b : Addr) (ns ms : List Int), x = .ref a ∧ y = .ref b ∧ SqT K H a (ns.map V.int) ∧ SqT K H b (ms.map V.int) ∧ ns.length = ms.length ∧ Q (.bl (lexB ms ns)) H
theorem lexAt_gt : ∀ (ns ms : List Int) (e r : Nat → Bool) (z : Bool) (i : Nat), ns.length = ms.length → (∀ j, j < ns.length → e (i + j) = decide (ns.getD j 0 = ms.getD j 0)) → (∀ j, j < ns.length → r (i + j) = decide (ms.getD j 0 < ns.getD j 0)) →
    z = false → Ob.lexAt e r z i ns.length = lexB ms ns
  | [], [], e, r, z, i, _, _, _, hz => by subst hz; rfl
  | [], m :: ms, e, r, z, i, hl, _, _, hz => by cases hl
  | n :: ns, [], e, r, z, i, hl, _, _, hz => by cases hl
  | n :: ns, m :: ms, e, r, z, i, hl, he, hr, hz => by
    rw [List.length_cons] at he hr ⊢
    rw [Ob.lexAt_succ]
    have e0 := he 0 (by omega)
    have r0 := hr 0 (by omega)
    simp only [Nat.add_zero, List.getD_cons_zero] at e0 r0
    rw [e0, r0, lexAt_gt ns ms e r z (i + 1) (by simpa using hl) (fun j hj => by have := he (j + 1) (by omega); rw [show i + (j + 1) = i + 1 + j by omega] at this; simpa using this)
      (fun j hj => by have := hr (j + 1) (by omega); rw [show i + (j + 1) = i + 1 + j by omega] at this; simpa using this) hz]
    simp only [lexB]
    by_cases h : n = m
    · subst h; simp
    · have h' : ¬ m = n := fun e => h e.symm
      simp [h, h']
theorem op_gtT {X : Cx} (hu : X.A.units < cLine) : OpR X (compareOp .Gt) (rGtT X.K) := by
  intro pins s σ H x y v u Q I rx ry h
  obtain ⟨a, b, ns, ms, rfl, rfl, ha, hb, hl, q⟩ := h
  cases rx
  cases ry
  obtain ⟨its, r1, p1, _⟩ := I.tuple ha
  obtain ⟨its2, r2, p2, _⟩ := I.tuple hb
  have i1 : IntsAre its ns := Vals.ints r1
  have i2 : IntsAre its2 ms := Vals.ints r2
  have z1 : its.toArray.size = ns.length := by rw [List.size_toArray]; exact i1.length
  have z2 : its2.toArray.size = ms.length := by rw [List.size_toArray]; exact i2.length
  have at1 : ∀ j (h1 : j < its.toArray.size), ∃ t, its.toArray[j] = .int (ns.getD j 0) t := fun j h1 => PyProof.Rows.IntsAre.int_at i1 _ _ (by simp at h1; simp [h1])
  have at2 : ∀ j (h1 : j < its2.toArray.size), ∃ t, its2.toArray[j] = .int (ms.getD j 0) t := fun j h1 => PyProof.Rows.IntsAre.int_at i2 _ _ (by simp at h1; simp [h1])
  have R := Ob.RcOp.tuples_gt (A := X.A) (s := s) (e := fun j => decide (ns.getD j 0 = ms.getD j 0)) (r := fun j => decide (ms.getD j 0 < ns.getD j 0)) p1 p2 hu (fun j h1 h2 => by
    obtain ⟨t, et⟩ := at1 j h1
    obtain ⟨t', et'⟩ := at2 j h2
    rw [et, et']
    have z : (ns.getD j 0 == ms.getD j 0) = decide (ns.getD j 0 = ms.getD j 0) := Bool.beq_eq_decide_eq _ _
    rw [← z]
    exact SeqAt.EqAt.int_int _ _ _ _) (fun j h1 h2 _ => by
    obtain ⟨t, et⟩ := at1 j h1
    obtain ⟨t', et'⟩ := at2 j h2
    rw [et, et']
    exact Ob.RcOp.gt_int _ _ _ _)
  rw [z1, z2, ← hl, Nat.min_self, lexAt_gt ns ms _ _ _ 0 hl (fun j _ => by rw [Nat.zero_add]) (fun j _ => by rw [Nat.zero_add]) (by simp)] at R
  have z : wpAny (model X.prog X.w) X.A (compareOp .Gt (.ref a) (.ref b)) (EP X pins σ Q) X.xe s := R X.prog X.w X.xe (EP X pins σ Q) ⟨.bl _, H, I, rfl, q⟩
  exact z
def gtTD : Dt → Dt → Option Dt
  | .tuple ds, .tuple es => (intsD ds).bind fun ns => (intsD es).bind fun ms => if ns.length = ms.length then some (.bool (lexB ms ns)) else none
  | _, _ => none
theorem op2_gtT {K : PySem.W.Frag} : Op2 K (rGtT K) gtTD := by
  intro x y G H d e c Q e0 rx ry hg k
  unfold gtTD at hg
  split at hg
  · next ds es =>
    obtain ⟨ns, h1, hg⟩ := Option.bind_eq_some_iff.mp hg
    obtain ⟨ms, h2, hg⟩ := Option.bind_eq_some_iff.mp hg
    split at hg
    · next hl =>
      cases hg
      rw [intsD_some h1] at rx
      rw [intsD_some h2] at ry
      obtain ⟨a, vs, rfl, ha, ra, _⟩ := rx.tup e0
      obtain ⟨b, ws, rfl, hb, rb, _⟩ := ry.tup e0
      rw [rps_ints ra] at ha
      rw [rps_ints rb] at hb
      exact ⟨a, b, ns, ms, rfl, rfl, ha, hb, hl, k _ G H (.refl e0) (.bl _)⟩
    · cases hg
  · cases hg
end
/-! ### a module's tuple of ints -/
def valIntsB : List Value → List Dt → Option (List Int)
  | [], [] => some []
  | .int i _ :: vs, .int j :: ds => if i = j then (valIntsB vs ds).map (i :: ·) else none
  | _, _ => none
theorem valInts_ok : ∀ {vs : List Value} {ds : List Dt} {ns : List Int}, valIntsB vs ds = some ns → Vals (ns.map V.int) vs ∧ ds = ns.map .int
  | [], [], ns, h => by cases h; exact ⟨.nil, rfl⟩
  | [], _ :: _, _, h => by simp [valIntsB] at h
  | v :: _, [], _, h => by cases v <;> simp [valIntsB] at h
  | v :: vs, d :: ds, ns, h => by
    cases v <;> cases d <;> first
      | (simp [valIntsB] at h; done)
      | skip
    rename_i i t j
    unfold valIntsB at h
    split at h
    · next e =>
      subst e
      obtain ⟨ms, hm, rfl⟩ := Option.map_eq_some_iff.mp h
      obtain ⟨h1, h2⟩ := valInts_ok hm
      exact ⟨.cons ⟨t, rfl⟩ h1, by rw [h2]; rfl⟩
    · cases h
end Cc

-- part Cc15
set_option maxHeartbeats 2000000
/-! Defs that raise an error of an own class; a try that catches it. -/
namespace Cc
open PySem PySem.Spec PyProof.Rows L2

/-- a call that raises: an error of the class at C -/
def spR (K : PySem.W.Frag) (C : Addr) (R : List Dt → Prop) : Sp := fun vs H _ E => ∃ G ds, Ex G H ∧ Rps K G vs ds ∧ R ds ∧ ∀ G' H', Step G H G' H' → E (.ref C) none H'
/-- an expression that raises -/
def canE (K : PySem.W.Frag) (C : Addr) (W : WX) (R : Dn → Prop) : TE := fun σ H _ => ∃ G ρ, EnvOk K G H σ ρ ∧ R ρ ∧ ∀ G' H', Step G H G' H' → W (.ref C) none σ H'
/-- a block that raises -/
def canB (K : PySem.W.Frag) (C : Addr) (E : XK) (R : Dn → Prop) : TS := fun _ σ H => ∃ G0 H0 G ρ, SOk K G0 H0 G H σ ρ ∧ R ρ ∧ ∀ G' H', Step G0 H0 G' H' → E (.ref C) none H'

/-- the class that is raised -/
structure ExR (K : PySem.W.Frag) (mg : Str → Option Value) (x : Str) (C : Addr) : Prop where
  g : mg x = some (.ref C)
  kp : PySem.W.keepIn K (.ref C) = true
  ex : PySem.W.excIn K C [.type "ValueError", .type "Exception", .type "BaseException", .type "object"] "ValueError.__new__" = true
  sb : PySem.W.subIn K (.ref C) (.type "BaseException") = some true
  ty : PySem.W.typeIn K (.ref C) = some (.type "type")

theorem pss_none {X : Cx} {sts : List Stmt} : PSs X sts (fun _ _ _ => False) := ⟨fun _ _ _ _ _ _ h => h.elim⟩
section
variable {X : Cx} {C : Addr} {W : WX} {R : Dn → Prop} {Rd : List Dt → Prop} {e : Expr} {es : List Expr} {fs : AF} {pos : Pos} {c : Expr} {t : TF} {sts rest : List Stmt} {st : Stmt} {B : SF} {E : XK}
/-- raise X('m') -/
theorem rs_raise {x m : Str} {j : Nat} {p p2 pos pos2 : Pos} (T : ExR X.K X.mg x C) (hc : X.calm = true) (tk : Takes X (fun cls d _ H => E cls d H)) (hg : Gl X x) (hdb : (x == ("__debug__" : Str)) = false := by decide) :
    PS X (.Raise (some (.Call (.Name x p) [.Constant (.str m) j p2] [] pos)) none pos2) (canB X.K C E fun _ => True) :=
  ps_imp (ps_raise hc tk (pmk_own PySem.F.excBase_ValueError T.ex T.g T.kp (raises_own T.sb T.ty) hg hdb)) fun D σ H ⟨G0, H0, G, ρ, S, _, k⟩ => k G H S.st
/-- if t: (a block that raises) -/
theorem rs_if {s1 s2 : List Stmt} (hc : PT X c (canT X.K t)) (h1 : PSs X s1 (canB X.K C E R)) : PS X (.If c s1 s2 pos) (canB X.K C E fun ρ => t ρ = some true ∧ R ρ) :=
  ps_imp (ps_if hc h1 pss_none) fun D σ H ⟨G0, H0, G, ρ, S, ⟨ht, hR⟩, k⟩ =>
    ⟨G, ρ, true, S.env, ht, fun G1 H1 s1 => by show if (true = true) then _ else _; rw [if_pos rfl]; exact ⟨G0, H0, G1, ρ, S.step s1, hR, k⟩⟩
theorem rs_head (h1 : PS X st (canB X.K C E R)) : PSs X (st :: rest) (canB X.K C E R) :=
  pss_imp (pss_cons h1 pss_none) fun D σ H h => h
theorem rs_cons (h1 : PS X st (canS X.K B)) (h2 : PSs X rest (canB X.K C E R)) : PSs X (st :: rest) (canB X.K C E fun ρ => ∃ ρ', B ρ = some (.nx ρ') ∧ R ρ') :=
  pss_imp (pss_cons h1 h2) fun D σ H ⟨G0, H0, G, ρ, S, ⟨ρ', hb, hR⟩, k⟩ =>
    ⟨G0, H0, G, ρ, .nx ρ', S, hb, fun σ' G' H' e S' => ⟨G0, H0, G', ρ', S', hR, k⟩⟩
/-- a call that raises -/
theorem re_call {k : Nat} {g : Addr} {fd : FuncData} {ps : List Str} {x : Str} {p : Pos} (ok : FnOk X.prog X.w X.K X.mg X.base (L2.CX X.prog X.w) k g fd ps (spR X.K C Rd)) (hr : Room k X.A) (hg : Gl X x) (hm : X.mg x = some (.ref g))
    (hk : PySem.W.keepIn X.K (.ref g) = true) (hb : Binds X.K fd ps []) (tk : Takes X W) (ha : PA X (e :: es) (canA X.K fs)) (hdb : (x == ("__debug__" : Str)) = false := by decide) (he : starEach (e :: es) X.env = (false, eval e X.env) :: starEach es X.env := by rfl)
    (hpl : (backTo pos (starEach es X.env)).any (·.1) = false := by rfl) : PE X (.Call (.Name x p) (e :: es) [] pos) (canE X.K C W fun ρ => ∃ ds, fs ρ = some ds ∧ Rd ds) :=
  pe_imp (pe_callS ok hr hg hm hk hb (fun σ => passAt tk σ) ha hdb he hpl) fun σ H Q ⟨G, ρ, Ev, ⟨ds, hds, hR⟩, k⟩ =>
    ⟨G, ρ, ds, Ev, hds, fun vs G1 H1 s1 r1 => ⟨G1, ds, s1.gh, r1, hR, fun G2 H2 s2 => k G2 H2 (s1.trans s2)⟩⟩
/-- [ .. ] of one item that raises -/
theorem re_lst1 (he : PE X e (canE X.K C W R)) (hst : starEach [e] X.env = (false, eval e X.env) :: starEach [] X.env := by rfl) : PE X (.List [e] pos) (canE X.K C W R) :=
  pe_imp (pe_lst (pa_cons he pa_nil hst)) fun σ H Q h => h
theorem re_if {a b : Expr} {R2 : Dn → Prop} (hc : PT X c (canT X.K t)) (ha : PE X a (canE X.K C W R)) (hb : PE X b (canE X.K C W R2)) : PE X (.IfExp c a b pos) (canE X.K C W fun ρ => ∃ k, t ρ = some k ∧ if k then R ρ else R2 ρ) :=
  pe_imp (pe_ifExp hc ha hb) fun σ H Q ⟨G, ρ, Ev, ⟨d, hd, hR⟩, k⟩ => ⟨G, ρ, d, Ev, hd, fun G1 H1 s1 => by
    cases d with
    | true => rw [if_pos rfl] at hR ⊢; exact ⟨G1, ρ, Ev.step s1, hR, fun G2 H2 s2 => k G2 H2 (s1.trans s2)⟩
    | false => rw [if_neg Bool.false_ne_true] at hR ⊢; exact ⟨G1, ρ, Ev.step s1, hR, fun G2 H2 s2 => k G2 H2 (s1.trans s2)⟩⟩
theorem rs_expr (he : PE X e (canE X.K C W R)) (hs : swapsWith e none pos.line X.env = pure false := by rfl) : PSs X [.Expr e pos] (fun _ σ H => canE X.K C W R σ H fun _ _ => False) :=
  pss_imp (pss_one (ps_expr he hs)) fun D σ H h => h
/-- x = (a call that raises) -/
theorem rs_set {i : Nat} {x : Str} {p1 : Pos} (hN : X.N.Nodup) (hi : X.N[i]? = some x) (hx : Loc X.env.scope x) (he : PE X e (canE X.K C (fun cls d _ H => E cls d H) R)) (hs : swapsWith e (some (.Name x p1)) pos.line X.env = pure false := by rfl)
    (hf : X.fn x = true ∨ X.env.scope.names.lookup x = some .local := by first | exact .inl rfl | exact .inr rfl | assumption) : PS X (.Assign [.Name x p1] e pos) (canB X.K C E R) :=
  ps_imp (ps_set hN hi hx he hs hf) fun D σ H ⟨G0, H0, G, ρ, S, hR, k⟩ => ⟨G, ρ, S.env, hR, fun G' H' s => k G' H' (S.st.trans s)⟩
/-- for .. in (a call that raises) -/
theorem rs_for {tg iter : Expr} {body : List Stmt} {g : TG} (hp : PassesOwn (model X.prog X.w) X.A X.env X.xe) (hc : X.calm = true) (he : PE X iter (canE X.K C (fun cls d _ H => E cls d H) R)) (hg : PG X tg g)
    (hs : ∀ x, foldedSetIterable iter X.env x = pure x := by intro _; rfl) : PS X (.For tg iter body [] pos) (canB X.K C E R) :=
  ps_imp (ps_for hp hc (pi_list he) hg pss_none hs) fun D σ H ⟨G0, H0, G, ρ, S, hR, k⟩ => ⟨G, ρ, S.env, hR, fun G' H' s => k G' H' (S.st.trans s)⟩
end
section
variable {P : Program} {w : World} {K : PySem.W.Frag} {mg : Str → Option Value} {base : Heap}
theorem fn_raise {x qual : Str} {st : Stmt} {f : Addr} {fd : FuncData} {N ps : List Str} {k : Nat} {C : Addr} {R : Dn → Prop} (F : Fun K x qual st f fd) (S : FnScope N ps (defScope st))
    (hbody : ∀ (cdv : Value) (A : Around) (outer : List Env) (s : Shared) (H : Hp) (E : XK), Room k (A.deeper (envOfC qual (defScope st) s.heap.objs.size f cdv)) → PSs (cxOf (L2.CX P w) P w K mg base N qual (defScope st) f cdv A outer s H E) (defBody st) (canB K C E R)) :
    FnOk P w K mg base (L2.CX P w) (k + 1) f fd ps (spR K C fun ds => ds.length = ps.length ∧ R (startD N ds)) := by
  refine F.okX S (fun vs H Q E h => ?_) (fun cdv A outer s H vs Q E hr h => ⟨_, hbody cdv A outer s H E hr, ?_⟩)
  · obtain ⟨G, ds, _, r, ⟨hl, _⟩, _⟩ := h
    rw [paired_len r]; exact hl
  · obtain ⟨G, ds, e, r, ⟨hl, hR⟩, q⟩ := h
    exact ⟨G, H, G, startD N ds, sok_start e r, hR, q⟩
end

/-! ### isinstance of the caught error -/
def rIsET (K : PySem.W.Frag) (D a : Addr) : List V → Hp → VK → Prop := fun xs H Q => ∃ (tp : Addr) (cs : List V) (us : List Value) (b : Bool), xs = [.ref a, .ref tp] ∧ H tp = some (.tup cs) ∧ Paired ClsV cs us ∧ PySem.W.kitAny K (.ref D) us = some b ∧ Q (.bl b) H
theorem call_isET {X : Cx} {a D : Addr} {oe : Obj} {pn : List (Addr × Obj)} (C : ExcC X.K D) (hz : Zc (.ref D) none oe) (hf : ∃ vs, oe.data = .fields vs) : CallR (X.suite a ((a, oe) :: pn)) (.builtin "isinstance") (rIsET X.K D a) := by
  intro pins s σ H xs us Q I r h
  obtain ⟨tp, cs, ws, b, rfl, hT, k, e, q⟩ := h
  obtain ⟨u1, u2, rfl, r1, r2⟩ := vals2 r
  cases (show u2 = Value.ref tp from r2)
  cases (show u1 = Value.ref a from r1)
  obtain ⟨hget, _⟩ := I.pin (a, oe) (List.mem_append.mpr (.inl List.mem_cons_self))
  obtain ⟨vs, hv⟩ := hf
  have J : PySem.W.InstAt s.heap a oe D none := by
    obtain ⟨oc, od, oda, osl⟩ := oe
    obtain ⟨h1, h2⟩ := hz
    dsimp only at h1 h2 hv
    subst h1 h2 hv
    exact ⟨hget, rfl, rfl, trivial⟩
  obtain ⟨_, its, rv, o, h1, h2, n, h3⟩ := (show ObjOk _ _ H s.heap tp (.tup cs) from I.hok tp _ hT)
  have e3 := ClsV.all k rv
  subst e3
  obtain ⟨oc, od, dt, sl⟩ := o
  simp only at h2 h3
  subst h2 h3
  exact PySem.W.kia_tup (PySem.W.handS_kitx_exc C.hg C.hk C.hs C.hd C.ha C.hn C.ht C.hm) I.kIn J h1 e (fun z => nomatch z) fun tk => ⟨.bl b, H, I.tok tk, rfl, q⟩
/-- the suite's answer: True -/
def canY (i : Nat) (a : Addr) (b : Bool) : TE := fun σ H Q => σ[i]? = some (some (.ref a)) ∧ ∀ H', Ex H H' → Q (.bl b) H'
section
variable {X : Cx} {a D : Addr} {oe : Obj} {pn : List (Addr × Obj)} {i : Nat} {b : Bool}
theorem ce_own {n c : Str} {C1 : Addr} {p p1 p2 pos : Pos} (C : ExcC X.K D) (hz : Zc (.ref D) none oe) (hf : ∃ vs, oe.data = .fields vs) (hg : Gl X "isinstance") (hm : X.mg "isinstance" = none) (hN : X.N[i]? = some n) (hv : Vis X.env.scope n) (hd : (n == ("__debug__" : Str)) = false) (hcd : (n == ("__classdict__" : Str)) = false)
    (hc : Gl X c) (hmc : X.mg c = some (.ref C1)) (hk : PySem.W.kitOne X.K (.ref D) (.ref C1) = some b) (hd2 : (c == ("__debug__" : Str)) = false) :
    PE (X.suite a ((a, oe) :: pn)) (.Call (.Name "isinstance" p) [.Name n p1, .Name c p2] [] pos) (canY i a b) :=
  pe_imp (pe_callB (call_isE C hz hf) hg hm rfl (pa_cons (pv i hN hv hd hcd) (pa_cons (pe_glob hc hmc (show RelV (.ref C1) (.ref C1) from rfl) hd2) pa_nil)) (hpl := by rfl)) fun σ H Q ⟨h1, h2⟩ =>
    ⟨_, h1, .ref C1, .ref C1, b, rfl, fun u r => r, hk, h2 H (.refl _)⟩
theorem ce_ty {n c : Str} {T : String} {p p1 p2 pos : Pos} (C : ExcC X.K D) (hz : Zc (.ref D) none oe) (hf : ∃ vs, oe.data = .fields vs) (hg : Gl X "isinstance") (hm : X.mg "isinstance" = none) (hN : X.N[i]? = some n) (hv : Vis X.env.scope n) (hd : (n == ("__debug__" : Str)) = false) (hcd : (n == ("__classdict__" : Str)) = false)
    (hc : Gl X c) (hmc : X.mg c = none) (hb : bootBuiltins c = some (.type T)) (hn : c ≠ "__name__") (hk : PySem.W.kitOne X.K (.ref D) (.type T) = some b) (hd2 : (c == ("__debug__" : Str)) = false) :
    PE (X.suite a ((a, oe) :: pn)) (.Call (.Name "isinstance" p) [.Name n p1, .Name c p2] [] pos) (canY i a b) :=
  pe_imp (pe_callB (call_isE C hz hf) hg hm rfl (pa_cons (pv i hN hv hd hcd) (pa_cons (pe_bltn hc hmc hb (show RelV (.ty T) (.type T) from rfl) hn hd2) pa_nil)) (hpl := by rfl)) fun σ H Q ⟨h1, h2⟩ =>
    ⟨_, h1, .ty T, .type T, b, rfl, fun u r => r, hk, h2 H (.refl _)⟩
theorem ce_two {n c c' : Str} {C1 C2 : Addr} {p p1 p2 p3 p4 pos : Pos} (C : ExcC X.K D) (hz : Zc (.ref D) none oe) (hf : ∃ vs, oe.data = .fields vs) (hg : Gl X "isinstance") (hm : X.mg "isinstance" = none) (hN : X.N[i]? = some n) (hv : Vis X.env.scope n) (hd : (n == ("__debug__" : Str)) = false) (hcd : (n == ("__classdict__" : Str)) = false)
    (hc : Gl X c) (hmc : X.mg c = some (.ref C1)) (hd2 : (c == ("__debug__" : Str)) = false) (hc' : Gl X c') (hmc' : X.mg c' = some (.ref C2)) (hd2' : (c' == ("__debug__" : Str)) = false) (hk : PySem.W.kitAny X.K (.ref D) [.ref C1, .ref C2] = some b) {z : Nat} :
    PE (X.suite a ((a, oe) :: pn)) (.Call (.Name "isinstance" p) [.Name n p1, .Tuple [.Name c p2, .Name c' p3] z p4] [] pos) (canY i a b) :=
  pe_imp (pe_callB (call_isET C hz hf) hg hm rfl (pa_cons (pv i hN hv hd hcd) (pa_cons (pe_tup (pa_cons (pe_glob hc hmc (show RelV (.ref C1) (.ref C1) from rfl) hd2) (pa_cons (pe_glob hc' hmc' (show RelV (.ref C2) (.ref C2) from rfl) hd2') pa_nil))) pa_nil)) (hpl := by rfl)) fun σ H Q ⟨h1, h2⟩ =>
    ⟨_, h1, by show 2 ≤ sizeLine; rw [sizeLine_eq]; omega, fun p hp => ⟨p, _, _, b, rfl, upd_same, .cons (.own C1) (.cons (.own C2) .nil), hk, h2 _ (.new hp)⟩⟩
theorem ce_and {x y : Expr} {rest : List Expr} {pos : Pos} (hx : PE X x (canY i a true)) (hy : PE X (.BoolOp .And (y :: rest) pos) (canY i a b)) : PE X (.BoolOp .And (x :: y :: rest) pos) (canY i a b) :=
  pe_imp (pe_and hx hy) fun σ H Q ⟨h1, h2⟩ => ⟨h1, fun H' e => ⟨true, rfl, by rw [if_pos rfl]; exact ⟨h1, fun H2 e2 => h2 H2 (e.trans e2)⟩⟩⟩
theorem ce_one {x : Expr} {op} {pos : Pos} (hx : PE X x (canY i a b)) : PE X (.BoolOp op [x] pos) (canY i a b) := pe_one hx
theorem ce_not {x : Expr} {pos : Pos} (hx : PE X x (canY i a b)) : PE X (.UnaryOp .Not x pos) (canY i a !b) :=
  pe_imp (pe_not hx) fun σ H Q ⟨h1, h2⟩ => ⟨h1, fun H' e => ⟨b, rfl, h2 H' e⟩⟩
end

theorem kit_ref {K : PySem.W.Frag} {t : Value} {C : Addr} {b : Bool} (hne : (t == .ref C) = false) (hc : PySem.W.isClsIn K C = true) (ht : PySem.W.typeIn K (.ref C) = some (.type "type")) (hs : PySem.W.subIn K t (.ref C) = some b) : PySem.W.kitOne K t (.ref C) = some b := by
  have hc' : (PySem.W.clsIn K C).isSome = true := hc
  unfold PySem.W.kitOne
  rw [hne, if_neg Bool.false_ne_true]
  show (if ((PySem.W.clsIn K C).isSome && PySem.W.typeIn K (.ref C) == some (.type "type")) = true then PySem.W.subIn K t (.ref C) else none) = some b
  rw [if_pos (by rw [hc', ht] <;> rfl)]
  exact hs
theorem kit_blt {K : PySem.W.Frag} {D : Addr} {T : String} {b : Bool} (hm : PySem.W.kitMeta T = true) (hs : PySem.W.subIn K (.ref D) (.type T) = some b) : PySem.W.kitOne K (.ref D) (.type T) = some b := by
  unfold PySem.W.kitOne
  rw [if_neg (fun z => by cases beq_iff_eq.mp z)]
  show (if PySem.W.kitMeta T = true then PySem.W.subIn K (.ref D) (.type T) else none) = some b
  rw [if_pos hm]
  exact hs

/-! ### the def that catches -/
def tsY (C : Addr) (i : Nat) : Addr → Value → Option Addr → TS := fun a cls d D σ H => cls = .ref C ∧ d = none ∧ σ[i]? = some (some (.ref a)) ∧ ∀ H', Ex H H' → D.rt (.bl true) H'
theorem pss_tsY {X : Cx} {C : Addr} {i : Nat} {a : Addr} {cls : Value} {d : Option Addr} {e : Expr} {pos : Pos} (h : cls = .ref C → d = none → PE X e (canY i a true)) : PSs X [.Return (some e) pos] (tsY C i a cls d) := by
  refine ⟨fun pins s σ H D I q => ?_⟩
  obtain ⟨h1, h2, h3, h4⟩ := q
  exact (pss_one (ps_ret (h h1 h2))).run pins s σ H D I ⟨h3, h4⟩
/-- try: (what raises) / except C as e: return True -/
noncomputable def sTry (i : Nat) (R : Dn → Prop) : SF := fun ρ => open Classical in if i < ρ.length ∧ R ρ then some (.rt (.bool true)) else none
theorem sTry_of {i : Nat} {R : Dn → Prop} {ρ : Dn} (h1 : i < ρ.length) (h2 : R ρ) : sTry i R ρ = some (.rt (.bool true)) := by
  unfold sTry
  rw [if_pos ⟨h1, h2⟩]
theorem ps_caught {X : Cx} {x n : Str} {C : Addr} {i : Nat} {body suite : List Stmt} {b₀ : Stmt} {np pos pos' : Pos} {R : Dn → Prop}
    (hs : X.stack = X.env :: X.outer) (hf : X.env.frame = some X.env.locals) (hN : X.N.Nodup) (hi : X.N[i]? = some n) (hln : X.env.kindOf n = some .local) (hc : Names X x (.ref C)) (tk : Takes X (fun _ _ _ _ => False))
    (hcl : PySem.W.exmOne X.K (.ref C) (.ref C) = some true)
    (hb : ∀ (W : WX) (pn : List (Addr × Obj)) (xe : Value → Shared → Prop), Takes (X.tr pn xe) W → PSs (X.tr pn xe) body (fun _ σ H => canE X.K C W R σ H fun _ _ => False))
    (hsu : ∀ (a : Addr) (oe : Obj) (cls : Value) (d : Option Addr) (pn : List (Addr × Obj)), Zc cls d oe → (∃ vs, oe.data = .fields vs) → PSs (X.suite a ((a, oe) :: pn)) (b₀ :: suite) (tsY C i a cls d)) :
    PS X (.Try body [.ExceptHandler (some (.Name x np)) (some n) (b₀ :: suite) pos'] [] [] pos) (canS X.K (sTry i R)) :=
  ps_imp (ps_try_as (tb := fun W _ σ H => canE X.K C W R σ H fun _ _ => False) (ts := tsY C i) (Wout := fun _ _ _ _ => False) hs hf hN hi hln hc tk (fun W pn xe tk _ => hb W pn xe tk) hsu) fun D σ H ⟨G0, H0, G, ρ, r, S, hr, k⟩ => by
    unfold sTry at hr
    split at hr
    · next h =>
      cases hr
      refine ⟨G, ρ, S.env, h.2, fun G' H' s => ⟨true, hcl, fun _ a ha => ⟨rfl, rfl, get_set_lt (by rw [S.env.len]; exact h.1), fun H2 e2 => ?_⟩, fun z => nomatch z⟩⟩
      have s2 := S.st.trans s
      exact k (.bl true) G' H2 ⟨s2.g, s2.h.trans e2, s2.gh.trans e2, s2.fo⟩ (.bl true)
    · cases hr
end Cc

-- part Cc16
set_option maxHeartbeats 2000000
/-! Dicts that a body makes: keys ints, or tuples of ints. -/
namespace Cc
open PySem PySem.Spec PyProof.Rows L2

def keyD : Dt → Option Key
  | .int i => some (.inl i)
  | .str x => some (.inr x)
  | _ => none
def keysD : List Dt → Option (List Key)
  | [] => some []
  | d :: ds => (keyD d).bind fun k => (keysD ds).map (k :: ·)
section
variable {K : PySem.W.Frag} {G : Hp}
theorem keyD_rp {v : V} {d : Dt} {k : Key} (h : keyD d = some k) (r : Rp K G v d) : v = kV k := by
  cases r <;> first
    | (cases h; rfl)
    | cases h
theorem keysD_rp : ∀ {vs : List V} {ds : List Dt} {ks : List Key}, keysD ds = some ks → Rps K G vs ds → vs = ks.map kV
  | _, [], ks, h, r => by cases r; cases h; rfl
  | _, d :: ds, ks, h, r => by
    cases r with
    | cons r1 r2 =>
      obtain ⟨k, hk, h⟩ := Option.bind_eq_some_iff.mp (show (keyD d).bind (fun k => (keysD ds).map (k :: ·)) = some ks from h)
      obtain ⟨ks', hk', rfl⟩ := Option.map_eq_some_iff.mp h
      rw [keyD_rp hk r1, keysD_rp hk' r2]
      rfl
section
variable {κ : Type} [DecidableEq κ]
def valD (kvs : List (κ × Dt)) (k : κ) : Option Dt := (kvs.find? fun kv => decide (kv.1 = k)).map (·.2)
def putD (kvs : List (κ × Dt)) (k : κ) (d : Dt) : List (κ × Dt) :=
  if (kvs.any fun kv => decide (kv.1 = k)) = true then kvs.map (fun kv => if kv.1 = k then (kv.1, d) else kv) else kvs ++ [(k, d)]
abbrev PRk (K : PySem.W.Frag) (G : Hp) : List (κ × V) → List (κ × Dt) → Prop := Paired fun p q => p.1 = q.1 ∧ Rp K G p.2 q.2
theorem pr_of : ∀ {kv : List (κ × V)} {ds : List (κ × Dt)}, kv.map (·.1) = ds.map (·.1) → Rps K G (kv.map (·.2)) (ds.map (·.2)) → PRk K G kv ds
  | [], [], _, _ => .nil
  | [], _ :: _, h, _ => by cases h
  | _ :: _, [], h, _ => by cases h
  | p :: kv, q :: ds, h, r => by
    rw [List.map_cons, List.map_cons] at h r
    cases r with
    | cons r1 r2 =>
      obtain ⟨h1, h2⟩ := List.cons.inj h
      exact .cons ⟨h1, r1⟩ (pr_of h2 r2)
theorem pr_to {kv : List (κ × V)} {ds : List (κ × Dt)} (h : PRk K G kv ds) : kv.map (·.1) = ds.map (·.1) ∧ Rps K G (kv.map (·.2)) (ds.map (·.2)) := by
  induction h with
  | nil => exact ⟨rfl, .nil⟩
  | cons r _ ih => exact ⟨by rw [List.map_cons, List.map_cons, ih.1, r.1], .cons r.2 ih.2⟩
theorem pr_val {kv : List (κ × V)} {ds : List (κ × Dt)} (h : PRk K G kv ds) (k : κ) : (valV kv k = none ∧ valD ds k = none) ∨ ∃ v d, valV kv k = some v ∧ valD ds k = some d ∧ Rp K G v d := by
  induction h with
  | nil => exact .inl ⟨rfl, rfl⟩
  | @cons p q ps qs r t ih =>
    by_cases e : p.1 = k
    · refine .inr ⟨p.2, q.2, valV_pos e, ?_, r.2⟩
      have e2 : q.1 = k := r.1.symm.trans e
      simp [valD, List.find?_cons, e2]
    · have e2 : ¬ q.1 = k := fun z => e (r.1.trans z)
      have s1 : valD (q :: qs) k = valD qs k := by simp [valD, List.find?_cons, e2]
      rw [valV_neg e, s1]
      exact ih
theorem pr_any {kv : List (κ × V)} {ds : List (κ × Dt)} (h : PRk K G kv ds) (k : κ) : (kv.any fun x => decide (x.1 = k)) = (ds.any fun x => decide (x.1 = k)) := by
  induction h with
  | nil => rfl
  | cons r _ ih => rw [List.any_cons, List.any_cons, ih, r.1]
theorem pr_map {kv : List (κ × V)} {ds : List (κ × Dt)} {v : V} {d : Dt} (h : PRk K G kv ds) (k : κ) (r : Rp K G v d) : PRk K G (kv.map fun x => if x.1 = k then (x.1, v) else x) (ds.map fun x => if x.1 = k then (x.1, d) else x) := by
  induction h with
  | nil => exact .nil
  | @cons p q ps qs r1 _ ih =>
    rw [List.map_cons, List.map_cons]
    by_cases e : q.1 = k
    · rw [if_pos e, if_pos (r1.1.trans e)]; exact .cons ⟨r1.1, r⟩ ih
    · rw [if_neg e, if_neg (fun z => e (r1.1.symm.trans z))]; exact .cons r1 ih
theorem pr_put {kv : List (κ × V)} {ds : List (κ × Dt)} {v : V} {d : Dt} (h : PRk K G kv ds) (k : κ) (r : Rp K G v d) : PRk K G (putK kv k v) (putD ds k d) := by
  unfold putK putD
  rw [pr_any h k]
  split
  · exact pr_map h k r
  · exact paired_app h (.cons ⟨rfl, r⟩ .nil)
end
end
/-! ### {} -/
def sDNewT (i : Nat) : SF := fun ρ => some (.nx (ρ.set i (.ownT [])))
def sDNewK (i : Nat) : SF := fun ρ => some (.nx (ρ.set i (.ownK [])))
section
variable {X : Cx} {i : Nat} {x : Str} {p1 dp pos : Pos}
theorem sok_setOwn {K : PySem.W.Frag} {G0 H0 G H G1 H1 : Hp} {σ : L2.St} {ρ : Dn} (S : SOk K G0 H0 G H σ ρ) (s1 : Step G H G1 H1) {p : Addr} {o : HO} {s : Sl} (ho : s.isOwn = true) (hp : H p = none) (hg : G1 p = none) (hp1 : H1 p = some o) (r : OwnRep K G1 o s) :
    SOk K G0 H0 G1 H1 (σ.set i (some (.ref p))) (ρ.set i s) := by
  have S1 := S.step s1
  refine ⟨S1.st, S1.env.setOwn (s := s) (o := o) ho hg hp1 r fun j s' q hj hs' hq => ?_, fun j s' q hj hs' hq => ?_⟩
  · obtain ⟨q', o, e1, e2, e3, _⟩ := S.env.own j s' hj hs'
    rw [hq] at e1; cases e1
    exact ne_of_none e3 hp
  · by_cases hij : i = j
    · subst hij; have := get_set_self hq; cases this; exact S.st.h.back hp
    · rw [get_set_ne hij] at hj hq; exact S.fr j s' q hj hs' hq
theorem ds_dnewT (hN : X.N.Nodup) (hi : X.N[i]? = some x) (hx : Loc X.env.scope x) (hs : swapsWith (.Dict [] [] dp) (some (.Name x p1)) pos.line X.env = pure false := by rfl)
    (hf : X.fn x = true ∨ X.env.scope.names.lookup x = some .local := by first | exact .inl rfl | exact .inr rfl | assumption) : PS X (.Assign [.Name x p1] (.Dict [] [] dp) pos) (canS X.K (sDNewT i)) :=
  ps_imp (ps_set hN hi hx pe_dnewT hs hf) fun D σ H ⟨G0, H0, G, ρ, r, S, hb, k⟩ => by
    cases hb
    exact fun p hp => k _ G _ (.refl _) (sok_setOwn S (.newOwn S.env.gh hp) rfl hp (S.env.gh.back hp) upd_same ⟨rfl, .nil⟩)
theorem ds_dnewK (hN : X.N.Nodup) (hi : X.N[i]? = some x) (hx : Loc X.env.scope x) (hs : swapsWith (.Dict [] [] dp) (some (.Name x p1)) pos.line X.env = pure false := by rfl)
    (hf : X.fn x = true ∨ X.env.scope.names.lookup x = some .local := by first | exact .inl rfl | exact .inr rfl | assumption) : PS X (.Assign [.Name x p1] (.Dict [] [] dp) pos) (canS X.K (sDNewK i)) :=
  ps_imp (ps_set hN hi hx pe_dnewK hs hf) fun D σ H ⟨G0, H0, G, ρ, r, S, hb, k⟩ => by
    cases hb
    exact fun p hp => k _ G _ (.refl _) (sok_setOwn S (.newOwn S.env.gh hp) rfl hp (S.env.gh.back hp) upd_same ⟨rfl, .nil⟩)
end
/-! ### d[k] = v, d[k] -/
def tupOf : Dt → Option (List Key)
  | .tuple ks => keysD ks
  | _ => none
theorem tupOf_some {d : Dt} {k : List Key} (h : tupOf d = some k) : ∃ ks, d = .tuple ks ∧ keysD ks = some k := by
  cases d <;> first
    | exact ⟨_, rfl, h⟩
    | cases h
def sDPut (i : Nat) (fk fv : EF) : SF := fun ρ => (fv ρ).bind fun d => (fk ρ).bind fun kd => match ρ[i]? with
  | some (.ownT kvs) => (tupOf kd).bind fun k => if kvs.length < 1000 then some (.nx (ρ.set i (.ownT (putD kvs k d)))) else none
  | some (.ownK kvs) => (keyD kd).bind fun k => if kvs.length < 1000 then some (.nx (ρ.set i (.ownK (putD kvs k d)))) else none
  | _ => none
def dgetF (i : Nat) (fk : EF) : EF := fun ρ => (fk ρ).bind fun kd => match ρ[i]? with
  | some (.ownT kvs) => (tupOf kd).bind fun k => valD kvs k
  | some (.ownK kvs) => (keyD kd).bind fun k => valD kvs k
  | _ => none
section
variable {X : Cx} {i : Nat} {x : Str} {p1 p2 pos : Pos} {e ek : Expr} {fk fv : EF} {k : Nat}
theorem own_keyT {K : PySem.W.Frag} {G H : Hp} {kv : List (List Key × V)} {y : V} {ks : List Dt} {kk : List Key} (r : Rp K G y (.tuple ks)) (h : keysD ks = some kk) (e : Ex G H) : ∃ b, y = .ref b ∧ H b = some (.tup (kk.map kV)) := by
  obtain ⟨b, xs, rfl, hb, rx⟩ := r.of_tup
  rw [keysD_rp h rx] at hb
  exact ⟨b, rfl, e _ _ hb⟩
theorem few_put {κ : Type} {kv : List (κ × V)} {ds : List (κ × Dt)} (h : kv.map (·.1) = ds.map (·.1)) (hl : ds.length < 1000) : kv.length < sizeLine := by
  have : kv.length = ds.length := by rw [← List.length_map (f := (·.1)), h, List.length_map]
  rw [this, sizeLine_eq]; omega
theorem ds_dput (i : Nat) (hr : Room k X.A) (he : PE X e (can X.K fv)) (hk : PE X ek (can X.K fk)) (hN : X.N[i]? = some x := by rfl) (hv : Vis X.env.scope x := by first | exact Or.inl rfl | exact Or.inr (Or.inl rfl) | exact Or.inr (Or.inr rfl)) (hd : (x == ("__debug__" : Str)) = false := by decide)
    (hcd : (x == ("__classdict__" : Str)) = false := by decide) (hs : swapsWith e (some (.Subscript (.Name x p1) ek p2)) pos.line X.env = pure false := by rfl) : PS X (.Assign [.Subscript (.Name x p1) ek p2] e pos) (canS X.K (sDPut i fk fv)) :=
  ps_imp (ps_dput (by have := hu65 hr; omega) (pv i hN hv hd hcd) hk he hs) fun D σ H ⟨G0, H0, G, ρ, r, S, hb, kk⟩ => by
    unfold sDPut at hb
    obtain ⟨d, hd', hb⟩ := Option.bind_eq_some_iff.mp hb
    obtain ⟨kd, hkd, hb⟩ := Option.bind_eq_some_iff.mp hb
    split at hb
    · next kvs h =>
      obtain ⟨key, hkey, hb⟩ := Option.bind_eq_some_iff.mp hb
      obtain ⟨ks, ekd, hkey⟩ := tupOf_some hkey
      split at hb
      · next hl =>
        cases hb
        obtain ⟨p, o, h1, h2, h3, h4⟩ := S.env.own i _ h rfl
        obtain ⟨kv, rfl, q1, q2⟩ := own_dT h4
        refine ⟨G, ρ, d, S.env, hd', fun v G1 H1 s1 r1 => ⟨.ref p, h1, G1, ρ, _, S.env.step s1, hkd, fun y G2 H2 s2 r2 => ?_⟩⟩
        obtain ⟨b, rfl, hbt⟩ := own_keyT (kv := kv) (ekd ▸ r2) hkey s2.gh
        have s := s1.trans s2
        have S2 := S.step s
        refine ⟨p, _, rfl, DPut.t (s.h p _ h3) hbt (few_put q1 hl), ?_⟩
        exact kk _ G2 _ s.g (S2.change h rfl rfl h1 ((s.fo p _ h3 (fun xs e => nomatch e)).trans h2) (s.h p _ h3) (show OwnRep X.K G2 (.dT (putK kv key v)) (.ownT (putD kvs key d)) from pr_to (pr_put (pr_of q1 (Rps.mono s.g q2)) key (r1.mono s2.g))))
      · cases hb
    · next kvs h =>
      obtain ⟨key, hkey, hb⟩ := Option.bind_eq_some_iff.mp hb
      split at hb
      · next hl =>
        cases hb
        obtain ⟨p, o, h1, h2, h3, h4⟩ := S.env.own i _ h rfl
        obtain ⟨kv, rfl, q1, q2⟩ := own_dK h4
        refine ⟨G, ρ, d, S.env, hd', fun v G1 H1 s1 r1 => ⟨.ref p, h1, G1, ρ, _, S.env.step s1, hkd, fun y G2 H2 s2 r2 => ?_⟩⟩
        rw [keyD_rp hkey r2]
        have s := s1.trans s2
        have S2 := S.step s
        refine ⟨p, _, rfl, DPut.k (s.h p _ h3) (few_put q1 hl), ?_⟩
        exact kk _ G2 _ s.g (S2.change h rfl rfl h1 ((s.fo p _ h3 (fun xs e => nomatch e)).trans h2) (s.h p _ h3) (show OwnRep X.K G2 (.dK (putK kv key v)) (.ownK (putD kvs key d)) from pr_to (pr_put (pr_of q1 (Rps.mono s.g q2)) key (r1.mono s2.g))))
      · cases hb
    · cases hb
theorem d_dget (i : Nat) (hr : Room k X.A) (hk : PE X ek (can X.K fk)) (hN : X.N[i]? = some x := by rfl) (hv : Vis X.env.scope x := by first | exact Or.inl rfl | exact Or.inr (Or.inl rfl) | exact Or.inr (Or.inr rfl)) (hd : (x == ("__debug__" : Str)) = false := by decide)
    (hcd : (x == ("__classdict__" : Str)) = false := by decide) (hs : NoSl ek := by exact fun _ _ => rfl) : PE X (.Subscript (.Name x p1) ek pos) (can X.K (dgetF i fk)) :=
  pe_imp (pe_dget (by have := hu65 hr; omega) (pv i hN hv hd hcd) hk hs) fun σ H Q ⟨G, ρ, d, E, hf, q⟩ => by
    unfold dgetF at hf
    obtain ⟨kd, hkd, hf⟩ := Option.bind_eq_some_iff.mp hf
    split at hf
    · next kvs h =>
      obtain ⟨key, hkey, hf⟩ := Option.bind_eq_some_iff.mp hf
      obtain ⟨ks, ekd, hkey⟩ := tupOf_some hkey
      obtain ⟨p, o, h1, h2, h3, h4⟩ := E.own i _ h rfl
      obtain ⟨kv, rfl, q1, q2⟩ := own_dT h4
      refine ⟨.ref p, h1, G, ρ, _, E, hkd, fun y G2 H2 s2 r2 => ?_⟩
      obtain ⟨b, rfl, hbt⟩ := own_keyT (kv := kv) (ekd ▸ r2) hkey s2.gh
      rcases pr_val (pr_of q1 q2) key with ⟨_, z⟩ | ⟨v, d', z1, z2, z3⟩
      · rw [z] at hf; cases hf
      · rw [z2] at hf; cases hf
        refine ⟨p, v, rfl, ?_, q v G2 H2 s2 (z3.mono s2.g)⟩
        have := DGet.t (s2.h p _ h3) hbt
        rwa [z1] at this
    · next kvs h =>
      obtain ⟨key, hkey, hf⟩ := Option.bind_eq_some_iff.mp hf
      obtain ⟨p, o, h1, h2, h3, h4⟩ := E.own i _ h rfl
      obtain ⟨kv, rfl, q1, q2⟩ := own_dK h4
      refine ⟨.ref p, h1, G, ρ, _, E, hkd, fun y G2 H2 s2 r2 => ?_⟩
      rw [keyD_rp hkey r2]
      rcases pr_val (pr_of q1 q2) key with ⟨_, z⟩ | ⟨v, d', z1, z2, z3⟩
      · rw [z] at hf; cases hf
      · rw [z2] at hf; cases hf
        refine ⟨p, v, rfl, ?_, q v G2 H2 s2 (z3.mono s2.g)⟩
        have := DGet.k (k := key) (s2.h p _ h3)
        rwa [z1] at this
    · cases hf
end
/-! ### a def that returns a dict of its own -/
abbrev TD := List (List Key × Dt)
def spDict (K : PySem.W.Frag) (F : List Dt → Option TD) : Sp := fun vs H Q _ => ∃ G ds kvs, Ex G H ∧ Rps K G vs ds ∧ F ds = some kvs ∧ ∀ p kv G' H', Step G H G' H' → H p = none → G' p = none → H' p = some (.dT kv) → OwnRep K G' (.dT kv) (.ownT kvs) → Q (.ref p) H'
def canD (K : PySem.W.Frag) (f : Dn → Option TD) : TE := fun σ H Q => ∃ G ρ kvs, EnvOk K G H σ ρ ∧ f ρ = some kvs ∧ ∀ p kv G' H', Step G H G' H' → H p = none → G' p = none → H' p = some (.dT kv) → OwnRep K G' (.dT kv) (.ownT kvs) → Q (.ref p) H'
/-- a block that ends in return of slot i's dict -/
def canSD (K : PySem.W.Frag) (i : Nat) (B : SF) : TS := fun D σ H => ∃ G0 H0 G ρ ρ' kvs, SOk K G0 H0 G H σ ρ ∧ B ρ = some (.nx ρ') ∧ ρ'[i]? = some (.ownT kvs) ∧
  ∀ p kv G' H', Step G0 H0 G' H' → H0 p = none → G' p = none → H' p = some (.dT kv) → OwnRep K G' (.dT kv) (.ownT kvs) → D.rt (.ref p) H'
section
variable {X : Cx} {i : Nat} {x : Str} {p1 pos : Pos} {st : Stmt} {sts : List Stmt} {B1 B2 : SF} {fs : AF} {e : Expr} {es : List Expr}
theorem dd_cons (h1 : PS X st (canS X.K B1)) (h2 : PSs X sts (canSD X.K i B2)) : PSs X (st :: sts) (canSD X.K i (sSeq B1 B2)) :=
  pss_imp (pss_cons h1 h2) fun D σ H ⟨G0, H0, G, ρ, ρ', kvs, S, hb, hi, k⟩ => by
    unfold sSeq at hb
    split at hb
    · next ρ1 h => exact ⟨G0, H0, G, ρ, .nx ρ1, S, h, fun σ' G' H' e S' => ⟨G0, H0, G', ρ1, ρ', kvs, S', hb, hi, k⟩⟩
    · next r' hn => exact (hn ρ' hb).elim
theorem dd_ret (hN : X.N[i]? = some x := by rfl) (hv : Vis X.env.scope x := by first | exact Or.inl rfl | exact Or.inr (Or.inl rfl) | exact Or.inr (Or.inr rfl)) (hd : (x == ("__debug__" : Str)) = false := by decide)
    (hcd : (x == ("__classdict__" : Str)) = false := by decide) : PSs X [.Return (some (.Name x p1)) pos] (canSD X.K i sNil) :=
  pss_imp (pss_one (ps_ret (pv i hN hv hd hcd))) fun D σ H ⟨G0, H0, G, ρ, ρ', kvs, S, hb, hi, k⟩ => by
    cases hb
    obtain ⟨p, o, h1, h2, h3, h4⟩ := S.env.own i _ hi rfl
    obtain ⟨kv, rfl, q⟩ := own_dT h4
    exact ⟨.ref p, h1, k p kv G H S.st (S.fr i _ p hi rfl h1) h2 h3 q⟩
def callDF (F : List Dt → Option TD) (fs : AF) : Dn → Option TD := fun ρ => (fs ρ).bind F
theorem d_callD {CX : CXT} {k : Nat} {g : Addr} {fd : FuncData} {ps : List Str} {E : XK} {x : Str} {p : Pos} {F : List Dt → Option TD} (ok : FnOk X.prog X.w X.K X.mg X.base CX k g fd ps (spDict X.K F)) (hr : Room k X.A) (hg : Gl X x) (hm : X.mg x = some (.ref g))
    (hk : PySem.W.keepIn X.K (.ref g) = true) (hb : Binds X.K fd ps []) (hx : Passes CX X E) (ha : PA X (e :: es) (canA X.K fs)) (hdb : (x == ("__debug__" : Str)) = false := by decide) (he : starEach (e :: es) X.env = (false, eval e X.env) :: starEach es X.env := by rfl)
    (hpl : (backTo pos (starEach es X.env)).any (·.1) = false := by rfl) : PE X (.Call (.Name x p) (e :: es) [] pos) (canD X.K (callDF F fs)) :=
  pe_imp (pe_call ok hr hg hm hk hb .nil hx ha hdb he hpl) fun σ H Q ⟨G, ρ, kvs, Ev, hf, k⟩ => by
    unfold callDF at hf
    obtain ⟨ds, hds, hf⟩ := Option.bind_eq_some_iff.mp hf
    refine ⟨G, ρ, ds, Ev, hds, fun vs G1 H1 s1 r1 => ?_⟩
    show spDict X.K F (vs ++ []) H1 Q E
    rw [List.append_nil]
    exact ⟨G1, ds, kvs, s1.gh, r1, hf, fun p kv G2 H2 s2 hp hg hp2 r2 => k p kv G2 H2 (s1.trans s2) (s1.h.back hp) hg hp2 r2⟩
/-- x = (a call that returns a dict) -/
def sDSet (i : Nat) (f : Dn → Option TD) : SF := fun ρ => (f ρ).map fun kvs => .nx (ρ.set i (.ownT kvs))
theorem ds_dset {f : Dn → Option TD} (hN : X.N.Nodup) (hi : X.N[i]? = some x) (hx : Loc X.env.scope x) (he : PE X e (canD X.K f)) (hs : swapsWith e (some (.Name x p1)) pos.line X.env = pure false := by rfl)
    (hf : X.fn x = true ∨ X.env.scope.names.lookup x = some .local := by first | exact .inl rfl | exact .inr rfl | assumption) : PS X (.Assign [.Name x p1] e pos) (canS X.K (sDSet i f)) :=
  ps_imp (ps_set hN hi hx he hs hf) fun D σ H ⟨G0, H0, G, ρ, r, S, hb, k⟩ => by
    unfold sDSet at hb
    obtain ⟨kvs, hd, rfl⟩ := Option.map_eq_some_iff.mp hb
    exact ⟨G, ρ, kvs, S.env, hd, fun p kv G1 H1 s1 hp hg hp1 r1 => k _ G1 H1 s1.g (sok_setOwn S s1 rfl hp hg hp1 r1)⟩
end
/-- what a body that returns its dict computes -/
def runDD (N ps : List Str) (i : Nat) (B : SF) : List Dt → Option TD := fun ds => if ds.length = ps.length then match B (startD N ds) with
  | some (.nx ρ) => match ρ[i]? with
    | some (.ownT kvs) => some kvs
    | _ => none
  | _ => none else none
section
variable {P : Program} {w : World} {K : PySem.W.Frag} {mg : Str → Option Value} {base : Heap}
theorem fn_dict {x qual : Str} {st : Stmt} {f : Addr} {fd : FuncData} {N ps : List Str} {k i : Nat} {B : SF} (F : Fun K x qual st f fd) (S : FnScope N ps (defScope st))
    (hbody : ∀ (cdv : Value) (A : Around) (outer : List Env) (s : Shared) (H : Hp) (E : XK), Room k (A.deeper (envOfC qual (defScope st) s.heap.objs.size f cdv)) → PSs (cxOf CX0 P w K mg base N qual (defScope st) f cdv A outer s H E).nox (defBody st) (canSD K i B)) :
    FnOk P w K mg base CX0 (k + 1) f fd ps (spDict K (runDD N ps i B)) := by
  refine F.ok S (fun vs H Q E h => ?_) (fun cdv A outer s H vs Q E hr h => ⟨_, hbody cdv A outer s H E hr, ?_⟩)
  · obtain ⟨G, ds, kvs, _, r, hf, _⟩ := h
    unfold runDD at hf
    split at hf
    · next h => rw [paired_len r]; exact h
    · cases hf
  · obtain ⟨G, ds, kvs, e, r, hf, q⟩ := h
    unfold runDD at hf
    split at hf
    · next hl =>
      split at hf
      · next ρ hB =>
        split at hf
        · next kvs' hi =>
          cases hf
          exact ⟨G, H, G, startD N ds, ρ, kvs, sok_start e r, hB, hi, q⟩
        · cases hf
      · cases hf
    · cases hf
end
end Cc

-- part Cc19
set_option maxHeartbeats 2000000
/-! {k: v} with a tuple key; sorted(d) of such a dict; for .. in f(xs.pop(), ..); len(set([ints])). -/
namespace Cc
open PySem PySem.Spec PyProof.Rows L2
section
variable {X : Cx}
theorem pe_dictOneT {k v : Expr} {pos : Pos} {tk tv : TE} (hu : X.A.units + 1 < cLine) (hk : PE X k tk) (hv : PE X v tv) :
    PE X (.Dict [some k] [v] pos) (fun σ H Q => ∀ p, H p = none → tk σ (upd H p (.dT [])) fun y H1 => tv σ H1 fun x H2 => ∃ b key, H2 p = some (.dT []) ∧ y = .ref b ∧ H2 b = some (.tup (key.map kV)) ∧ Q (.ref p) (upd H2 p (.dT (putK [] key x)))) := by
  refine ⟨fun pins s σ H Q I q => ?_⟩
  have hn := I.hok.fresh (Nat.le_refl s.heap.objs.size)
  have I1 := I.laid (a := s.heap.objs.size) (o := .dT []) (h' := s.heap.push { cls := .type "dict", data := .dict #[] }) (t' := s.toks) (fun _ _ q => Heap.get?_push_of_some _ q) (Nat.le_refl _) (dt_empty s.heap I.big)
  have hlen : (pairTrees [some k] [v] X.env pos).length = 1 := pairTrees_length [some k] [v] X.env pos rfl rfl
  rw [arm_eval_Dict, zip_pairTrees [some k] [v] X.env pos rfl rfl, dictDisplay_pairs _ (fun e => by rw [e] at hlen; cases hlen) (by omega)]
  refine wpAny_bind (wpAny_standAt (wpAny_bind ?_))
  unfold subDict
  refine wpAny_bind (wpAny_alloc ?_)
  refine wpAny_bind (wpAny_holding ?_)
  rw [if_pos (by omega)]
  refine wpAny_bind (pairTrees_cons_walk (thn (hk.run pins _ σ _ _ I1 (q _ hn)) fun u s1 ⟨y, H1, I2, ry, q1⟩ => thn (hv.run pins s1 σ H1 _ I2 q1) fun w2 s2 ⟨x, H2, I3, rx, b, key, e, ey, eb, q2⟩ => pairTrees_nil_walk ?_))
  subst ey
  cases (show u = Value.ref b from ry)
  refine wpAny_holding ?_
  obtain ⟨z, hd, xs, rel, dd⟩ := dt_of I3.hok e
  cases rel
  rw [List.forIn_cons]
  have hl : (putK ([] : List (List Key × V)) key x).length ≤ sizeLine := by rw [sizeLine_eq]; show 1 ≤ _; omega
  refine wpAny_bind (wpAny_bind ?_)
  show wpAny _ _ (dictSet s.heap.objs.size (Value.ref b) w2 >>= fun _ => pure (ForInStep.yield PUnit.unit)) _ _ _
  refine wpAny_bind (wpAny_dictSet_heap (knd := tupleKind (mixKind X.prog X.w)) (show (tupleKind (mixKind X.prog X.w)).room X.A from (by show X.A.units < cLine; omega)) (key_of I3.hok eb) dd (fun h' dd' hs => ?_) (by show 0 ≤ _; omega))
  obtain ⟨q', es, ep, hq, h2, h3, h4, _, h5⟩ := dd'
  refine wpAny_pure ?_
  show wpAny _ _ (forIn ([] : List (Value × Value)) PUnit.unit _) _ _ _
  rw [List.forIn_nil]
  refine wpAny_pure (wpAny_pure (wpAny_pure (wpAny_pure ⟨.ref s.heap.objs.size, _, ?_, rfl, q2⟩)))
  refine d_write I3 (by rw [e]; exact True.intro) hs ⟨q', hq⟩ ⟨hl, hd, _, (KT.put (show KT H2 [] [] from Paired.nil) key eb rx).keeps fun c ys ec => ?_, q', es, ep, hq, h2, h3, h4, h5⟩
  rw [upd_ne (ne_of ec e (fun z => nomatch z))]
  exact ec
/-- found = {k: v}, the key a tuple -/
def sDOne (i : Nat) (fk fv : EF) : SF := fun ρ => (fk ρ).bind fun kd => (fv ρ).bind fun d => (tupOf kd).bind fun k => some (.nx (ρ.set i (.ownT [(k, d)])))
theorem ds_done {i kk : Nat} {x : Str} {p1 pos dp : Pos} {k v : Expr} {fk fv : EF} (hr : Room kk X.A) (hN : X.N.Nodup) (hi : X.N[i]? = some x) (hx : Loc X.env.scope x) (hk : PE X k (can X.K fk)) (hv : PE X v (can X.K fv)) (hs : swapsWith (.Dict [some k] [v] dp) (some (.Name x p1)) pos.line X.env = pure false := by rfl)
    (hf : X.fn x = true ∨ X.env.scope.names.lookup x = some .local := by first | exact .inl rfl | exact .inr rfl | assumption) : PS X (.Assign [.Name x p1] (.Dict [some k] [v] dp) pos) (canS X.K (sDOne i fk fv)) :=
  ps_imp (ps_set hN hi hx (pe_dictOneT (by have := hu65 hr; omega) hk hv) hs hf) fun D σ H ⟨G0, H0, G, ρ, r, S, hb, q⟩ => by
    unfold sDOne at hb
    obtain ⟨kd, hkd, hb⟩ := Option.bind_eq_some_iff.mp hb
    obtain ⟨d, hd, hb⟩ := Option.bind_eq_some_iff.mp hb
    obtain ⟨key, hkey, hb⟩ := Option.bind_eq_some_iff.mp hb
    cases hb
    obtain ⟨ks, ekd, hkey⟩ := tupOf_some hkey
    intro p hp
    have s0 : Step G H G (upd H p (.dT [])) := .newOwn S.env.gh hp
    refine ⟨G, ρ, kd, S.env.step s0, hkd, fun y G1 H1 s1 r1 => ⟨G1, ρ, d, (S.env.step s0).step s1, hd, fun z G2 H2 s2 r2 => ?_⟩⟩
    obtain ⟨b, rfl, hbt⟩ := own_keyT (kv := []) (ekd ▸ r1) hkey s1.gh
    have sp : H2 p = some (.dT []) := s2.h p _ (s1.h p _ upd_same)
    have st := (s0.trans s1).trans s2
    have gp : G2 p = none := by
      have f1 := (s1.trans s2).fo p _ upd_same (fun xs e => nomatch e)
      rw [f1]; exact S.env.gh.back hp
    refine ⟨b, key, sp, rfl, s2.h b _ hbt, ?_⟩
    have own : OwnRep X.K G2 (.dT [(key, z)]) (.ownT [(key, d)]) := ⟨rfl, .cons r2 .nil⟩
    have put : putK ([] : List (List Key × V)) key z = [(key, z)] := rfl
    rw [put]
    have st2 : Step G H G2 (upd H2 p (.dT [(key, z)])) := by
      refine ⟨st.g, fun a u q => ?_, fun a u q => ?_, fun a u q n => st.fo a u q n⟩
      · rw [upd_ne (ne_of_none q hp)]; exact st.h a u q
      · rw [upd_ne (fun e => by rw [e, gp] at q; cases q)]; exact st.gh a u q
    exact q _ G2 _ st.g (sok_setOwn S st2 rfl hp gp upd_same own)
/-! ### k not in d, tuple keys -/
def notinTF (i : Nat) (fk : EF) : TF := fun ρ => (fk ρ).bind fun kd => match ρ[i]? with
  | some (.ownT kvs) => (tupOf kd).map fun k => !(valD kvs k).isSome
  | _ => none
theorem dt_notinT (i : Nat) {kk : Nat} {x : Str} {p1 pos : Pos} {ek : Expr} {fk : EF} (hr : Room kk X.A) (hk : PE X ek (can X.K fk)) (h1 : behindInMarks .NotIn (.Name x p1) = false) (hN : X.N[i]? = some x := by rfl) (hv : Vis X.env.scope x := by first | exact Or.inl rfl | exact Or.inr (Or.inl rfl) | exact Or.inr (Or.inr rfl)) (hd : (x == ("__debug__" : Str)) = false := by decide)
    (hcd : (x == ("__classdict__" : Str)) = false := by decide) : PT X (.Compare ek [.NotIn] [.Name x p1] pos) (canT X.K (notinTF i fk)) :=
  pt_imp (pt_cmp (pc_dnotin (by have := hu65 hr; omega) hk (pv i hN hv hd hcd)) h1) fun σ H Q ⟨G, ρ, d, E, hf, q⟩ => by
    unfold notinTF at hf
    obtain ⟨kd, hkd, hf⟩ := Option.bind_eq_some_iff.mp hf
    split at hf
    · next kvs h =>
      obtain ⟨key, hkey, rfl⟩ := Option.map_eq_some_iff.mp hf
      obtain ⟨ks, ekd, hkey⟩ := tupOf_some hkey
      obtain ⟨p, o, h1, h2, h3, h4⟩ := E.own i _ h rfl
      obtain ⟨kv, rfl, q1, q2⟩ := own_dT h4
      refine ⟨G, ρ, _, E, hkd, fun y G2 H2 s2 r2 => ?_⟩
      obtain ⟨b, rfl, hbt⟩ := own_keyT (kv := kv) (ekd ▸ r2) hkey s2.gh
      refine ⟨.ref p, h1, p, valV kv key, rfl, DGet.t (s2.h p _ h3) hbt, ?_⟩
      have e : (valV kv key).isSome = (valD kvs key).isSome := by
        rcases pr_val (pr_of q1 q2) key with ⟨z1, z2⟩ | ⟨v, d', z1, z2, z3⟩ <;> rw [z1, z2] <;> rfl
      refine ⟨_, rfl, ?_⟩
      rw [e]
      exact q G2 H2 s2
    · cases hf
/-! ### for .. in f(xs.pop(), ..) -/
theorem for_core {K : PySem.W.Frag} {D : Ends} {σ : L2.St} {H G0 H0 G1 : Hp} {ρ : Dn} {r : Res} {xs : List Dt} {J : It} {g : GF} {B : SF} {is : List Nat} (S : SOk K G0 H0 G1 H σ ρ) (hJ : ItD K J G1 xs) (hr : forL g B xs ρ = some r) (k : Fin K G0 H0 G1 D r) :
    ∃ W : Nat → Nat → L2.St → Hp → Prop, (∃ m, W 0 m σ H) ∧ ∀ (i m : Nat) (σ : L2.St) (H : Hp), W i m σ H → J.stop i H ∧ D.nx σ H ∨ J.go i H ∧ ∃ N, (∀ (σ' : L2.St) (H' : Hp), N σ' H' → ∃ m', m' < m ∧ W (i + 1) m' σ' H') ∧
      ∀ (x : V) (H' : Hp), J.yld i H x H' → canG K is g x σ H' fun σ2 H2 => canS K B { nx := N, rt := D.rt, bk := D.nx, ct := N } σ2 H2 := by
  refine ⟨fun i m σ' H' => m = xs.length - i ∧ i ≤ xs.length ∧ ∃ G' ρ', Ex G1 G' ∧ SOk K G0 H0 G' H' σ' ρ' ∧ forL g B (xs.drop i) ρ' = some r, ⟨xs.length, by simp, Nat.zero_le _, G1, ρ, .refl _, S, by simpa using hr⟩, ?_⟩
  rintro i m σ' H' ⟨rfl, hi', G', ρ', e1, S', hr⟩
  by_cases hlt : i < xs.length
  · refine .inr ⟨hJ.go i G' H' e1 S'.env.gh hlt, ?_⟩
    have hd : xs.drop i = xs[i] :: xs.drop (i + 1) := List.drop_eq_getElem_cons hlt
    rw [hd] at hr
    unfold forL at hr
    obtain ⟨ρ1, hρ1, hr⟩ := Option.bind_eq_some_iff.mp hr
    refine ⟨fun σ2 H2 => ∃ G2 ρ2, Ex G1 G2 ∧ SOk K G0 H0 G2 H2 σ2 ρ2 ∧ forL g B (xs.drop (i + 1)) ρ2 = some r, fun σ2 H2 ⟨G2, ρ2, a1, a2, a3⟩ => ⟨xs.length - (i + 1), by omega, rfl, hlt, G2, ρ2, a1, a2, a3⟩, fun x H2 hy => ?_⟩
    obtain ⟨d, G2, hd2, s2, r2⟩ := hJ.yld i G' H' H2 x e1 S'.env.gh hlt hy
    rw [List.getElem?_eq_getElem hlt] at hd2
    cases hd2
    refine ⟨G2, ρ', xs[i], ρ1, S'.env.step s2, r2, hρ1, fun σ3 G3 H3 E3 s3 k3 => ?_⟩
    have S3 := (S'.step s2).kept s3 E3 k3
    cases hB : B ρ1 with
    | none => rw [hB] at hr; cases hr
    | some q =>
      cases q with
      | nx ρ2 =>
        rw [hB] at hr
        exact ⟨G0, H0, G3, ρ1, .nx ρ2, S3, hB, fun σ4 G4 H4 e4 S4 => ⟨G4, ρ2, ((e1.trans s2.g).trans s3.g).trans e4, S4, hr⟩⟩
      | rt d =>
        rw [hB] at hr
        cases hr
        exact ⟨G0, H0, G3, ρ1, .rt d, S3, hB, k⟩
  · have e : i = xs.length := by omega
    subst e
    rw [List.drop_length] at hr
    cases hr
    exact .inl ⟨hJ.stop _ G' H' e1 S'.env.gh (Nat.le_refl _), k σ' G' H' e1 S'⟩
def sForPop (i : Nat) (F : List Dt → Option Dt) (fs : AF) (g : GF) (B : SF) : SF := fun ρ => match ρ[i]? with
  | some (.own ds) => (ds[ds.length - 1]?).bind fun d => (fs (ρ.set i (.own ds.dropLast))).bind fun es => (F (d :: es)).bind fun l => match l with
    | .list xs => forL g B xs (ρ.set i (.own ds.dropLast))
    | _ => none
  | _ => none
theorem ds_forPop (i : Nat) {k : Nat} {ga : Addr} {fd : FuncData} {ps : List Str} {x y : Str} {p p1 p2 pos pos' posc : Pos} {F : List Dt → Option Dt} {fs : AF} {es : List Expr} {tg : Expr} {body : List Stmt} {is : List Nat} {g : GF} {B : SF}
    (ok : FnOk X.prog X.w X.K X.mg X.base CX0 k ga fd ps (spD X.K F)) (hr : Room k X.A) (hg : Gl X x) (hm : X.mg x = some (.ref ga)) (hk : PySem.W.keepIn X.K (.ref ga) = true) (hb : Binds X.K fd ps []) (hp : PassesOwn (model X.prog X.w) X.A X.env X.xe) (hc : X.calm = true)
    (ha : PA X es (canA X.K fs)) (hgt : PG X tg (canG X.K is g)) (hbd : PSs X body (canS X.K B)) (hN : X.N[i]? = some y := by rfl) (hv : Vis X.env.scope y := by first | exact Or.inl rfl | exact Or.inr (Or.inl rfl) | exact Or.inr (Or.inr rfl)) (hd : (y == ("__debug__" : Str)) = false := by decide) (hcd : (y == ("__classdict__" : Str)) = false := by decide)
    (hat : attributeBase (.Name y p1) "pop" X.env (eval (.Name y p1) X.env) = eval (.Name y p1) X.env := by rfl) (hln : (p2.endLine == pos'.line) = true := by rfl)
    (hdb : (x == ("__debug__" : Str)) = false := by decide) (hst : starEach (.Call (.Attribute (.Name y p1) "pop" p2) [] [] pos' :: es) X.env = (false, eval (.Call (.Attribute (.Name y p1) "pop" p2) [] [] pos') X.env) :: starEach es X.env := by rfl)
    (hpl : (backTo posc (starEach es X.env)).any (·.1) = false := by rfl) (hs : ∀ z, foldedSetIterable (.Call (.Name x p) (.Call (.Attribute (.Name y p1) "pop" p2) [] [] pos' :: es) [] posc) X.env z = pure z := by intro _; rfl) :
    PS X (.For tg (.Call (.Name x p) (.Call (.Attribute (.Name y p1) "pop" p2) [] [] pos' :: es) [] posc) body [] pos) (canS X.K (sForPop i F fs g B)) :=
  ps_imp (ps_for hp hc (pi_list (pe_call ok hr hg hm hk hb .nil pass0 (pa_cons (pe_bm0 PySem.F.plainAttrs_list PySem.F.slot_list_pop PySem.F.type_list_pop mt_pop (pv i hN hv hd hcd) (hbase := hat) (hline := hln)) ha hst) hdb hst hpl)) hgt hbd hs) fun D σ H ⟨G0, H0, G, ρ, r, S, hb', kk⟩ => by
    unfold sForPop at hb'
    split at hb'
    · next ds h =>
      obtain ⟨d, hd', hb'⟩ := Option.bind_eq_some_iff.mp hb'
      obtain ⟨as, has, hb'⟩ := Option.bind_eq_some_iff.mp hb'
      obtain ⟨l, hl, hb'⟩ := Option.bind_eq_some_iff.mp hb'
      split at hb'
      · next xs =>
        obtain ⟨q, o, h1, h2, h3, h4⟩ := S.env.own i _ h rfl
        obtain ⟨vs, rfl, rv⟩ := own_lst h4
        obtain ⟨v, hv1, rv1⟩ := paired_get rv hd'
        have len : vs.length = ds.length := paired_len rv
        have drop : Rps X.K G vs.dropLast ds.dropLast := by
          have := paired_take (ds.length - 1) rv
          rwa [← List.dropLast_eq_take, ← len, ← List.dropLast_eq_take] at this
        have S1 : SOk X.K G0 H0 G (upd H q (.lst vs.dropLast)) σ (ρ.set i (.own ds.dropLast)) := S.change h rfl rfl h1 h2 h3 (show OwnRep X.K G (.lst vs.dropLast) (.own ds.dropLast) from drop)
        have hvl : vs[vs.length - 1]? = some v := by rw [len]; exact hv1
        refine ⟨.ref q, h1, .inl ⟨rfl, _, SqL.of h3⟩, q, vs, v, rfl, rfl, h3, hvl, ?_⟩
        refine ⟨G, ρ.set i (.own ds.dropLast), as, S1.env, has, fun ws G1 H1 s1 r1 => ?_⟩
        show spD X.K F ((v :: ws) ++ []) H1 _ _
        rw [List.append_nil]
        refine ⟨G1, d :: as, _, s1.gh, .cons (rv1.mono s1.g) r1, hl, fun u G2 H2 s2 r2 => ?_⟩
        obtain ⟨a, zs, rfl, hz, rz⟩ := r2.of_lst
        refine ⟨a, rfl, ⟨zs, s2.gh.sql (SqL.of hz)⟩, ?_⟩
        exact for_core ((S1.step s1).step s2) (itl_data hz rz) hb' (kk.mono (s1.g.trans s2.g))
      · cases hb'
    · cases hb'
/-! ### sorted(d), the keys pairs of ints -/
def rSortedDT : List V → Hp → VK → Prop := fun vs H Q => ∃ (a : Addr) (kvs : List (List Key × V)) (ts : List (List Int)), vs = [V.ref a] ∧ H a = some (.dT kvs) ∧ kvs.map (·.1) = ts.map (fun t => t.map Sum.inl) ∧ (∀ t ∈ ts, t.length = 2) ∧
  ∀ (qs : List (Addr × List Int)) (p : Addr), (∀ q ∈ qs, H q.1 = some (.tup (q.2.map V.int))) → qs.map (·.2) = sortT ts → H p = none → Q (.ref p) (upd H p (.lst (qs.map fun p => V.ref p.1)))
theorem kV_ints (t : List Int) : (t.map (Sum.inl : Int → Key)).map kV = t.map V.int := by rw [List.map_map]; rfl
theorem keyPlaces {H : Hp} : ∀ {kvs : List (List Key × V)} {ks : List (List Key × Addr × Value)} {ts : List (List Int)}, Paired (fun (p : List Key × V) (q : List Key × Addr × Value) => p.1 = q.1 ∧ H q.2.1 = some (.tup (p.1.map kV)) ∧ RelV p.2 q.2.2) kvs ks → kvs.map (·.1) = ts.map (fun t => t.map Sum.inl) →
    ∃ qs0 : List (Addr × List Int), (ks.map fun x => x.2.1) = qs0.map (·.1) ∧ qs0.map (·.2) = ts ∧ ∀ p ∈ qs0, H p.1 = some (.tup (p.2.map V.int))
  | _, _, [], .nil, _ => ⟨[], rfl, rfl, fun p h => nomatch h⟩
  | _, _, _ :: _, .nil, h => by cases h
  | _, _, [], .cons _ _, h => by cases h
  | _, _, t :: ts, .cons (a := p) (b := x) hp tl, h => by
    rw [List.map_cons, List.map_cons] at h
    obtain ⟨e1, e2⟩ := List.cons.inj h
    obtain ⟨qs, a1, a2, a3⟩ := keyPlaces tl e2
    have e1 : p.1 = t.map Sum.inl := e1
    have hp2 : H x.2.1 = some (.tup (p.1.map kV)) := hp.2.1
    rw [e1, kV_ints] at hp2
    refine ⟨(x.2.1, t) :: qs, by rw [List.map_cons, List.map_cons, a1], by rw [List.map_cons, a2], fun q hq => ?_⟩
    rcases List.mem_cons.mp hq with rfl | hq
    · exact hp2
    · exact a3 q hq
theorem cr_sortedDT (hc : X.calm = true) : CallR X (.builtin "sorted") rSortedDT := by
  intro pins s σ H vs us Q I r h
  obtain ⟨a, kvs, ts, rfl, hd, hk, h2, q⟩ := h
  obtain ⟨u, eu, rx⟩ := vals1 r
  subst eu
  cases rx
  obtain ⟨z, hs, ks, pr, o, es, ep, ho, hx, hdt, he, hn⟩ := (show ObjOk X.prog X.w H s.heap a (.dT kvs) from I.hok a _ hd)
  have l1 : es.size = ks.length := size_of_entries he
  have l2 : kvs.length = ks.length := Paired.length pr
  obtain ⟨qs0, hq0, hq1, hq2⟩ := keyPlaces pr hk
  have l3 : qs0.length = ks.length := by
    have := congrArg List.length hq0
    rw [List.length_map, List.length_map] at this
    exact this.symm
  refine Calls.call_function_entry PyProof.Rows.kind_sorted PyProof.Rows.plain_sorted PyProof.Rows.entry_sorted (PyProof.Rows.args_sorted1 _) ?_
  unfold Builtin.«sorted»
  refine wpAny_bind (m := checkCount "sorted" 1 1 _) (wpAny_pure ?_)
  refine wpAny_bind (PySem.W.kdu_collect (A := X.A.in1) (kdl_raw hs hx hdt) (I.ok.hd hc) ho (by omega) fun h' tk acc kp it => ?_)
  have ea : acc.toList = ks.map fun x => Value.ref x.2.1 := by
    have hl : acc.toList.length = ks.length := by rw [Array.length_toList, it.1]; exact l1
    apply List.ext_getElem?
    intro j
    rw [List.getElem?_map]
    cases hj : acc.toList[j]? with
    | none =>
      have h1 := List.getElem?_eq_none_iff.mp hj
      rw [List.getElem?_eq_none (by omega)]
      rfl
    | some v =>
      obtain ⟨en, hen, hv⟩ := it.2 j v (by rw [← Array.getElem?_toList]; exact hj)
      have qe := entry_at he j
      rw [hen] at qe
      cases hb : ks[j]? with
      | none =>
        rw [hb] at qe
        exact nomatch (show some en = none from qe)
      | some b =>
        rw [hb] at qe
        have e2 : en = entryOfKey (tupleKind (mixKind X.prog X.w)) b := Option.some.inj qe
        rw [hv, e2]
        rfl
  have ev : acc.toList = qs0.map fun p => Value.ref p.1 := by
    rw [ea]
    have := congrArg (List.map Value.ref) hq0
    rw [List.map_map, List.map_map] at this
    exact this
  rw [ev]
  have I1 : Inv X pins σ H { s with heap := h', toks := tk } := I.kept fun b o e => kp b o e
  have hz : (qs0.map fun p => Value.ref p.1).length ≤ sizeLine := by rw [List.length_map]; omega
  refine wpAny_bind (wpAny_newList ?_ hz)
  have hoL : (h'.push (seqObj "list" (qs0.map fun p => Value.ref p.1).toArray 0)).get? h'.objs.size = some (seqObj "list" (qs0.map fun p => Value.ref p.1).toArray 0) := Heap.get?_push_size _ rfl
  show wpAny _ _ _ _ _ { s with heap := h'.push (seqObj "list" (qs0.map fun p => Value.ref p.1).toArray 0), toks := tk }
  generalize hhh : h'.push (seqObj "list" (qs0.map fun p => Value.ref p.1).toArray 0) = hh at hoL ⊢
  have old : ∀ b o, s.heap.get? b = some o → hh.get? b = some o := fun b o e => by rw [← hhh]; exact Heap.get?_push_of_some _ (kp b o e)
  have hT : ∀ p ∈ qs0, TS.TupInts hh (.ref p.1) p.2 := fun p hp => (tupI_raw I (SqT.of (hq2 p hp))).keeps fun b o e _ => old b o e
  have nl : ∀ o, hh.get? h'.objs.size = some o → o.cls ≠ .type "tuple" := fun o e c => by
    rw [hoL] at e
    cases e
    exact absurd (Value.type.inj c) (by decide)
  have hlen2 : ∀ p ∈ qs0, p.2.length = 2 := fun p hp => h2 _ (by rw [← hq1]; exact List.mem_map.mpr ⟨p, hp, rfl⟩)
  refine wpAny_bind (wpAny_holding (wpAny_call_entry PyProof.Rows.slot_list_sort ⟨_, hoL, rfl⟩ PyProof.Rows.entry_list_sort
    (SrtO.list_sort_ord (s := { s with heap := hh, toks := tk }) (swo_ltT hh) hoL hz (fun hge => pair_sortable (s := { s with heap := hh, toks := tk }) (fun v hv => ?_) nl (by omega)) fun out h1 h2' => ⟨_, rfl, ?_⟩) (PyProof.Rows.args_list_sort _)))
  · obtain ⟨p, hp, rfl⟩ := List.mem_map.mp hv
    exact ⟨p.2, hT p hp, hlen2 p hp⟩
  · obtain ⟨e', he'⟩ := PyProof.Rows.sortedHeap_at (vs := qs0.map fun p => Value.ref p.1) (out := out.toArray) hoL
    have adr : ∀ u ∈ out, ∃ p ∈ qs0, u = Value.ref p.1 := fun u hu => by
      obtain ⟨p, hp, e⟩ := List.mem_map.mp (h2'.perm.mem_iff.mp hu)
      exact ⟨p, hp, e.symm⟩
    have toK : ∃ qs : List (Addr × List Int), out = qs.map (fun p => Value.ref p.1) ∧ (∀ q ∈ qs, q ∈ qs0) ∧ qs.map (·.2) = out.map (TS.intsOf hh) := by
      have : ∀ l : List Value, (∀ u ∈ l, ∃ p ∈ qs0, u = Value.ref p.1) → ∃ qs : List (Addr × List Int), l = qs.map (fun p => Value.ref p.1) ∧ (∀ q ∈ qs, q ∈ qs0) ∧ qs.map (·.2) = l.map (TS.intsOf hh) := by
        intro l
        induction l with
        | nil => intro _; exact ⟨[], rfl, (fun q h => nomatch h), rfl⟩
        | cons u l ih =>
          intro hl
          obtain ⟨p, hp, rfl⟩ := hl u List.mem_cons_self
          obtain ⟨qs, e1, e2, e3⟩ := ih fun v hv => hl v (List.mem_cons_of_mem _ hv)
          refine ⟨p :: qs, by rw [List.map_cons, e1], fun q hq => ?_, ?_⟩
          · rcases List.mem_cons.mp hq with rfl | hq
            · exact hp
            · exact e2 q hq
          · rw [List.map_cons, List.map_cons, e3, (hT p hp).ints]
      exact this out adr
    obtain ⟨qs, e1, e2, e3⟩ := toK
    have so : qs.map (·.2) = sortT ts := by
      rw [← hq1]
      refine sortT_eq ?_ ?_
      · rw [e3]
        show List.Pairwise _ _
        rw [List.pairwise_map]
        exact h1.imp fun h => h
      · rw [e3]
        have := h2'.perm.map (TS.intsOf hh)
        refine this.trans (List.Perm.of_eq ?_)
        rw [List.map_map]
        refine List.map_congr_left fun p hp => ?_
        exact (hT p hp).ints
    have hlen : (qs.map fun p => V.ref p.1).length ≤ sizeLine := by
      have := h2'.perm.length_eq
      rw [e1, List.length_map, List.length_map] at this
      rw [List.length_map, this]
      rw [List.length_map] at hz
      exact hz
    have vals : Vals (qs.map fun p => V.ref p.1) out := by
      rw [e1]
      have : ∀ l : List (Addr × List Int), Vals (l.map fun p => V.ref p.1) (l.map fun p => Value.ref p.1) := by
        intro l
        induction l with
        | nil => exact .nil
        | cons p l ih => exact .cons (show RelV (.ref p.1) (.ref p.1) from rfl) ih
      exact this qs
    refine wpAny_pure ⟨_, rfl, .ref h'.objs.size, upd H h'.objs.size (.lst (qs.map fun p => V.ref p.1)), I1.laid (t' := tk) (fun b u e => ?_) (Nat.le_refl _) ⟨hlen, out, e', vals, he'⟩, rfl, q qs _ (fun p hp => hq2 p (e2 p hp)) so (I1.hok.fresh (Nat.le_refl _))⟩
    have hb : b < h'.objs.size := Heap.lt_size e
    rw [PyProof.Rows.sortedHeap_old (Nat.ne_of_lt hb) (by rw [← hhh, size_push']; exact Nat.lt_succ_of_lt hb), ← hhh]
    exact Heap.get?_push_of_some _ e
theorem take_all {G H : Hp} (e : Ex G H) : ∀ (qs : List (Addr × List Int)), (∀ q ∈ qs, H q.1 = some (.tup (q.2.map V.int))) → ∃ G', Step G H G' H ∧ ∀ q ∈ qs, G' q.1 = some (.tup (q.2.map V.int))
  | [], _ => ⟨G, .refl e, fun q h => nomatch h⟩
  | p :: qs, h => by
    obtain ⟨G1, s1, h1⟩ := take_all e qs fun q hq => h q (List.mem_cons_of_mem _ hq)
    have s2 := Step.take s1.gh (h p List.mem_cons_self)
    refine ⟨_, s1.trans s2, fun q hq => ?_⟩
    rcases List.mem_cons.mp hq with rfl | hq
    · exact upd_same
    · exact s2.g _ _ (h1 q hq)
def intsK : List Key → Option (List Int)
  | [] => some []
  | .inl i :: ks => (intsK ks).map (i :: ·)
  | _ => none
theorem intsK_some : ∀ {ks : List Key} {t : List Int}, intsK ks = some t → ks = t.map Sum.inl
  | [], t, h => by cases h; rfl
  | .inl i :: ks, t, h => by
    obtain ⟨t', h', rfl⟩ := Option.map_eq_some_iff.mp (show (intsK ks).map (i :: ·) = some t from h)
    rw [List.map_cons, intsK_some h']
  | .inr x :: ks, t, h => by cases h
def intTups : TD → Option (List (List Int))
  | [] => some []
  | kv :: r => (intsK kv.1).bind fun t => (intTups r).map (t :: ·)
theorem intTups_some : ∀ {kvs : TD} {ts : List (List Int)}, intTups kvs = some ts → kvs.map (·.1) = ts.map (fun t => t.map Sum.inl)
  | [], ts, h => by cases h; rfl
  | kv :: r, ts, h => by
    obtain ⟨t, ht, h⟩ := Option.bind_eq_some_iff.mp (show (intsK kv.1).bind (fun t => (intTups r).map (t :: ·)) = some ts from h)
    obtain ⟨ts', h', rfl⟩ := Option.map_eq_some_iff.mp h
    rw [List.map_cons, List.map_cons, intTups_some h', intsK_some ht]
def sortDTF (i : Nat) : EF := fun ρ => match ρ[i]? with
  | some (.ownT kvs) => (intTups kvs).bind fun ts => if (ts.all fun t => t.length == 2) then some (.list ((sortT ts).map tupI)) else none
  | _ => none
theorem d_sortDT (i : Nat) {x : Str} {p1 p pos : Pos} (hc : X.calm = true) (hg : Gl X "sorted") (hm : X.mg "sorted" = none) (hN : X.N[i]? = some x := by rfl) (hv : Vis X.env.scope x := by first | exact Or.inl rfl | exact Or.inr (Or.inl rfl) | exact Or.inr (Or.inr rfl)) (hd : (x == ("__debug__" : Str)) = false := by decide)
    (hcd : (x == ("__classdict__" : Str)) = false := by decide) (he : starEach [.Name x p1] X.env = (false, eval (.Name x p1) X.env) :: starEach [] X.env := by rfl) : PE X (.Call (.Name "sorted" p) [.Name x p1] [] pos) (can X.K (sortDTF i)) :=
  pe_imp (pe_callB (cr_sortedDT hc) hg hm (by decide +kernel) (pa_cons (pv i hN hv hd hcd) pa_nil he) (he := he) (hpl := by rfl)) fun σ H Q ⟨G, ρ, d, E, hf, q⟩ => by
    unfold sortDTF at hf
    split at hf
    · next kvs h =>
      obtain ⟨ts, hts, hf⟩ := Option.bind_eq_some_iff.mp hf
      split at hf
      · next h2 =>
        cases hf
        obtain ⟨p, o, h1, h2', h3, h4⟩ := E.own i _ h rfl
        obtain ⟨kv, rfl, q1, q2⟩ := own_dT h4
        refine ⟨.ref p, h1, p, kv, ts, rfl, h3, q1.trans (intTups_some hts), fun t ht => by simpa using List.all_eq_true.mp h2 t ht, fun qs l hq so hl => ?_⟩
        obtain ⟨G1, s1, k1⟩ := take_all E.gh qs hq
        have s2 := Step.new (o := .lst (qs.map fun p => V.ref p.1)) s1.gh hl
        rw [← so] at q
        exact q _ _ _ (s1.trans s2) (.mk_lst upd_same (Rps.mono s2.g (tups_rps k1)))
      · cases hf
    · cases hf
/-! ### len(set([ints])) -/
def fstMet (ns : List Int) : List Int := PyProof.Rows.firstMet (fun i => ns.getD i 0) ns.length
def lenSetID : Dt → Option Dt
  | .list ds => (intsD ds).bind fun ns => if ns.length < 1000 then some (.int (fstMet ns).length) else none
  | _ => none
theorem d_lenSetI {a : Expr} {f : EF} {p p2 q pos : Pos} (hg : Gl X "len") (hm : X.mg "len" = none) (hg2 : Gl X "set") (hm2 : X.mg "set" = none) (hc : X.calm = true) (ha : PE X a (can X.K f))
    (na : starEach [a] X.env = (false, eval a X.env) :: starEach [] X.env := by rfl) : PE X (.Call (.Name "len" p) [.Call (.Name "set" p2) [a] [] q] [] pos) (can X.K (e1 lenSetID f)) := by
  refine ⟨fun pins s σ H Q I h => ?_⟩
  obtain ⟨G, ρ, d, E, hf, k⟩ := h
  obtain ⟨d0, hd0, hf⟩ := Option.bind_eq_some_iff.mp (show (f ρ).bind lenSetID = some d from hf)
  have hns : ∃ ns : List Int, d0 = .list (ns.map .int) ∧ ns.length < 1000 ∧ d = .int (fstMet ns).length := by
    unfold lenSetID at hf
    split at hf
    · obtain ⟨ns, h1, h2⟩ := Option.bind_eq_some_iff.mp hf
      split at h2
      · next h3 => cases h2; exact ⟨ns, by rw [intsD_some h1], h3, rfl⟩
      · cases h2
    · cases hf
  obtain ⟨ns, rfl, hlt, rfl⟩ := hns
  refine Call_ (ld_blt I hg hm PySem.boot_len ?_)
  refine PyProof.Rows.callWith_builtin1 (PyProof.Rows.args_cons ?_ rfl) rfl rfl
  refine Call_ (ld_blt I hg2 hm2 PyProof.Rows.boot_set ?_)
  refine PyProof.Rows.callWith_type1 (PyProof.Rows.args_cons (thn (ha.run pins s σ H (fun x H1 => ∃ G1, Step G H G1 H1 ∧ Rp X.K G1 x (.list (ns.map .int))) I ⟨G, ρ, _, E, hd0, fun v G1 H1 s1 r1 => ⟨G1, s1, r1⟩⟩) fun v s1 ⟨x, H1, I1, r1, G1, st, rw1⟩ => PyProof.Rows.args_nil ?_) na) na rfl
  obtain ⟨l, xs, rfl, hl, rs⟩ := rw1.of_lst
  cases r1
  have exs : xs = ns.map V.int := rps_ints rs
  subst exs
  obtain ⟨its, r, pl, hz⟩ := I1.list (SqL.of (st.gh _ _ hl))
  have hl2 : its.toArray.size = ns.length := by rw [List.size_toArray, ← r.length, List.length_map]
  refine call_set_list (I1.ok.hd hc) pl.isList (ns := ns) (by simpa using r.ints) (by unfold scanBound; omega) fun h' tk hS hk => ?_
  rw [hl2] at hS
  refine PyProof.Rows.args_nil ?_
  obtain ⟨o, es, ep, t, ho, hex, hd, _, _, _, hfit, hn⟩ := hS
  have I2 : Inv X pins σ H1 { s1 with heap := h', toks := tk } := I1.kept fun b o e => hk b o (Heap.lt_size e) e
  have hle : (fstMet ns).length ≤ ns.length := PyProof.Rows.firstMet_length_le _ _
  have hn' : es.size = (fstMet ns).length := hn
  refine call_len_set ho hex hd hfit (by rw [hn']; omega) ⟨.int (fstMet ns).length, H1, I2.tok _, ⟨_, by rw [hn']⟩, ?_⟩
  exact k _ G1 H1 st (.int _)
end
end Cc

-- part Rz0
set_option maxHeartbeats 2000000
/-! An exception that a call lets out within a list comprehension: it leaves the comprehension. -/
namespace Cc
open PySem PySem.Spec PyProof.Rows L2
/-- the exception at a has been noted, and flies -/
def Flew (a : Addr) (h : Heap) : Prop := ∃ oe vs T oT ts, h.get? a = some oe ∧ oe.data = .fields vs ∧ vs[1]? = some (.ref T) ∧ h.get? T = some oT ∧ oT.data = .fields ts ∧ ts[3]? = some .none
theorem Flew.of {B h : Heap} {l : List Env} {a : Addr} {Z : Obj → Prop} (fl : HandSPX.FlyingZ B l a Z h) : Flew a h := by
  obtain ⟨_, _, _, oe, vs, T, oT, ts, z1, _, z3, z4, _, _, z7, z8, z9⟩ := fl
  exact ⟨oe, vs, T, oT, ts, z1, z3, z4, z7, z8, z9⟩
theorem Flew.fly {B h : Heap} {l : List Env} {a L : Addr} {Z : Obj → Prop} (f : Flew a h) (x : Sky B l a Z L h) : HandSPX.FlyingZ B l a Z h := by
  obtain ⟨oe, vs, T, oT, ts, z1, z3, z4, z7, z8, z9⟩ := f
  rcases x with ⟨_, _, _, oe', vs', y1, _, y3, y4⟩ | fl | ⟨_, _, _, oe', vs', T', oT', ts', y1, _, y3, y4, _, _, y7, y8, y9⟩
  · rw [z1] at y1; cases y1
    rw [z3] at y3; cases y3
    rw [z4] at y4; cases y4
  · exact fl
  · rw [z1] at y1; cases y1
    rw [z3] at y3; cases y3
    rw [z4] at y4; cases y4
    rw [z7] at y7; cases y7
    rw [z8] at y8; cases y8
    rw [z9] at y9
    exact absurd y9 (by simp [rawInt])
/-- frames that another heap has the same -/
theorem frames_same {base h h' : Heap} : ∀ {l : List Env}, h.FunFrames base l → (∀ L ∈ frs l, h'.get? L = h.get? L) → h'.FunFrames base l
  | [], _, _ => trivial
  | e :: l, ⟨z1, ⟨L, o, z2, z3, z4, z5⟩, z6⟩, k => by
    have hm : ∀ b ∈ frs l, b ∈ frs (e :: l) := fun b hb => by
      obtain ⟨e', h1, h2⟩ := List.mem_filterMap.mp hb
      exact List.mem_filterMap.mpr ⟨e', List.mem_cons_of_mem _ h1, h2⟩
    exact ⟨z1, ⟨L, o, z2, z3, (k L (List.mem_filterMap.mpr ⟨e, List.mem_cons_self, z2⟩)).trans z4, z5⟩, frames_same z6 fun b hb => k b (hm b hb)⟩
theorem note_frame {e : Value} {c d : Env} (h : c.frame = d.frame) : noteFrame e c = noteFrame e d := by
  unfold noteFrame PySem.frameOf
  rw [h]
section
variable {X : Cx} {pins : List (Addr × Obj)} {σ : L2.St} {H3 : Hp} {s3 : Shared} {scope : Scope} {ce : Env} {fp : List Addr} {W' : WX} {W : WX}
/-- it leaves a comprehension's block -/
theorem leave_blk {α : Type} {what : String} {Q : α → Shared → Prop} {E₁ : Value → Shared → Prop} {a : Addr} {s' : Shared} (hs : X.stack = X.env :: X.outer) (hf : X.env.frame = some X.env.locals) (I3 : L2.Inv X pins σ H3 s3) (hC : ce.locals = s3.heap.objs.size) (hfr : ce.frame = X.env.frame)
    (hfp : ∀ b ∈ fp, FpOk X pins H3 b) (tk : Takes X W) (hW : ∀ cls d σ' H', W' cls d σ' H' → W cls d σ H') (x : XE (X.blk s3 H3 scope ce fp) W' (.ref a) s') (fw : Flew a s'.heap) :
    wpAny (model X.prog X.w) X.A (noteFrame (.ref a) ce) (fun _ s2 => ∃ m, s2.heap.Ns ce.locals m ∧ ∀ h', Heap.SameBut ce.locals s2.heap h' → wpAny (model X.prog X.w) X.A (PySem.passOn what (.ref a) ce : Sem α) Q X.xe { s2 with heap := h' }) E₁ s' := by
  obtain ⟨a', B, sI, pins', σ', H', cls, d, ea, J, nb, up, sky, na, os, ag, w⟩ := x
  cases ea
  have fl := fw.fly sky
  have est : (X.blk s3 H3 scope ce fp).stack = X.env :: X.outer := hs
  rw [est] at fl
  have frm : X.A.frames = some (X.env :: X.outer) := by rw [I3.ok.frames, hs]
  rw [note_frame hfr]
  refine HandSPX.looks_onZ Zc.steady frm hf fl fun h3 hh up3 => ?_
  have Jn : L2.Inv (X.blk s3 H3 scope ce fp) pins' σ' H' { s' with heap := h3 } := J.landed nb hh.1 (up.trans up3) os ag
  obtain ⟨m, hm, _⟩ := Jn.loc
  have hm : h3.Ns ce.locals m := hm
  refine ⟨m, hm, fun h' sb => ?_⟩
  obtain ⟨k1, k2, k3, oe, vs, T, oT, ts, he, hz, hd, h1, hnT, hTe, hT, hdT, h3v⟩ := hh
  obtain ⟨oc, es, ep, c1, c2, _⟩ := hm
  have aC : a ≠ ce.locals := fun z => by rw [z, c1] at he; cases he; rw [c2] at hd; cases hd
  have tC : T ≠ ce.locals := fun z => by rw [z, c1] at hT; cases hT; rw [c2] at hdT; cases hdT
  have he' : h'.get? a = some oe := (sb.2 a aC).trans he
  have hT' : h'.get? T = some oT := (sb.2 T tC).trans hT
  have old : ∀ b o, s3.heap.get? b = some o → b ≠ ce.locals := fun b o e z => by
    have := Heap.lt_size e
    rw [z, hC] at this
    exact Nat.lt_irrefl _ this
  have frC : ∀ L ∈ frs (X.env :: X.outer), L ≠ ce.locals := fun L hL => by
    rw [← hs] at hL
    obtain ⟨_, o, e, _⟩ := I3.stack.mem hL
    exact old L o e
  have nC : ∀ b, b ≠ ce.locals → b ∉ [ce.locals] := fun b hb z => hb (List.mem_singleton.mp z)
  have unC : ∀ {h : Heap} {b : Addr} {o : Obj}, (PySem.W.hideAll h [ce.locals]).get? b = some o → b ≠ ce.locals := fun {h b o} e z => by
    rw [PySem.W.hideAll_none [ce.locals] (by rw [z]; exact List.mem_cons_self)] at e
    cases e
  have hid : ∀ {h : Heap} {b : Addr}, h.get? b = none → (PySem.W.hideAll h [ce.locals]).get? b = none := fun {h b} e => by
    cases q : (PySem.W.hideAll h [ce.locals]).get? b with
    | none => rfl
    | some o => rw [PySem.W.of_hideAll _ q] at e; cases e
  have held : HandSPX.HeldZ (PySem.W.hideAll B [ce.locals]) (X.env :: X.outer) a (Zc cls d) X.env.locals h' := by
    refine ⟨fun b o e => (sb.2 b (unC e)).trans (k1 b o (PySem.W.of_hideAll _ e)), hid k2, funFrames_none (frames_same k3 fun L hL => sb.2 L (frC L hL)) fun L hL => hid (k3.mem hL).1, oe, vs, T, oT, ts, he', hz, hd, h1, hid hnT, hTe, hT', hdT, h3v⟩
  unfold PySem.passOn
  refine wpAny_bind (wpAny_field he' hd h1 ?_)
  rw [if_neg (show ¬ ((Value.ref T == Value.none) = true) from by simp)]
  have fin : wpAny (model X.prog X.w) X.A (setFlight (.ref a) ce.frame) (fun _ s4 => wpAny (model X.prog X.w) X.A (throw (.ref a) : Sem α) Q X.xe s4) X.xe { s' with heap := h' } := by
    rw [hfr, hf]
    refine HandSPX.setFlight_onZ held fun h4 hh4 up4 => wpAny_throw (tk _ _ ?_)
    have ub := J.base
    have Io : L2.Inv X pins σ H' { sI with heap := PySem.W.hideAll sI.heap [ce.locals] } := by
      refine I3.call' (ch := fp) J.os ⟨fun b o e n z1 z2 => ?_, fun b o e n z1 z2 => ?_, fun b o e n z => ub.free b o e n z, fun b o e z => ?_, ub.tups, ub.frzs, ub.tbls⟩ (fun b o q => ?_) J.bare fun b hb => ⟨(hfp b hb).2.2.2.1, (hfp b hb).2.1, (hfp b hb).2.2.2.2.1, (hfp b hb).2.2.2.2.2⟩
      · exact PySem.W.hideAll_get _ (ub.keep b o e n z1 z2) (nC b (old b o e))
      · obtain ⟨sl, q⟩ := ub.slot b o e n z1 z2
        exact ⟨sl, PySem.W.hideAll_get _ q (nC b (old b o e))⟩
      · obtain ⟨o', q⟩ := ub.there b o e z
        exact ⟨o', PySem.W.hideAll_get _ q (nC b (old b o e))⟩
      · have fr : H' ce.locals = none := J.free
        refine (J.hok b o q).stay (fun c u hc r => PySem.W.hideAll_get _ r (nC c fun z => ?_)) (fun _ r => r) fun _ _ r => r
        rw [z] at hc
        rcases hc with hc | hc
        · rw [hc, q] at fr; cases fr
        · rw [fr] at hc; cases hc
    refine ⟨a, PySem.W.hideAll B [ce.locals], _, pins, σ, H', cls, d, rfl, Io, fun b o e hb => PySem.W.hideAll_get _ (nb b o (PySem.W.of_hideAll _ e) hb) (nC b (unC e)), fun b o e hn => ?_, .inr (.inr (by rw [hs]; exact hh4)), na, os, ag, hW _ _ _ _ w⟩
    obtain ⟨sl1, q1⟩ := (up.trans up3) b o (PySem.W.of_hideAll _ e) hn
    have q2 : h'.get? b = some { o with slots := sl1 } := (sb.2 b (unC e)).trans q1
    obtain ⟨sl2, q3⟩ := up4 b _ q2 hn
    exact ⟨sl2, q3⟩
  first
    | exact wpAny_bind (wpAny_pure (wpAny_bind fin))
    | exact wpAny_bind fin
end
end Cc

-- part Rz1
set_option maxHeartbeats 2000000
/-! A list comprehension one of whose turns raises. -/
namespace Cc
open PySem PySem.Spec PyProof.Rows L2
theorem clo_none {cells : List (Str × Addr)} : ∀ {names : List (Str × NameKind)} {acc : List (Str × Addr)}, (∀ y ∈ names, y.2 ≠ .free) → cloFrom cells names acc = acc
  | [], _, _ => rfl
  | (n, k) :: r, acc, h => by
    have hk : (k == NameKind.free) = false := by simpa using h (n, k) List.mem_cons_self
    unfold cloFrom
    rw [if_neg (by rw [hk]; exact Bool.false_ne_true)]
    exact clo_none fun y hy => h y (List.mem_cons_of_mem _ hy)
theorem relabel_none {scope : Scope} {env : Env} (h : ∀ y ∈ scope.names, y.2 ≠ .free) : relabel scope env = scope := by
  unfold relabel
  have : ∀ l : List (Str × NameKind), (∀ y ∈ l, y.2 ≠ .free) → (l.map fun (n, k) => if (k == NameKind.free && env.scope.kind == .function && env.kindOf n == some .cell) = true then (n, NameKind.cell) else (n, k)) = l := by
    intro l
    induction l with
    | nil => intro _; rfl
    | cons y l ih =>
      intro hl
      obtain ⟨n, k⟩ := y
      have hk : (k == NameKind.free) = false := by simpa using hl (n, k) List.mem_cons_self
      rw [List.map_cons, ih fun z hz => hl z (List.mem_cons_of_mem _ hz)]
      simp [hk]
  rw [this _ h]
/-- what is known of an exception that a call let out -/
def Let (Y : Cx) (W : WX) (u : Value) (s' : Shared) : Prop := XE Y W u s' ∧ ∃ a, u = .ref a ∧ Flew a s'.heap
theorem let_passes {Y : Cx} {W : WX} (σ : L2.St) : PassesAt (L2.CX Y.prog Y.w) (Y.wish (Let Y W)) σ (WE W σ) := by
  intro pins H s e s' I c
  refine ⟨XE.of_call I.unwish (fun _ _ _ h => h) c, ?_⟩
  obtain ⟨a, B, H', cls, d, rfl, fl, _⟩ := c
  exact ⟨a, rfl, Flew.of fl⟩
section
variable {X : Cx} {elt tg iter : Expr} {scope : Scope} {own : List (Str × Nat)} {pos : Pos} {it : AF} {is : List Nat} {g : GF} {e : EF} {R : Dn → Prop} {C : Addr} {W : WX}
theorem re_lc (hst : X.stack = X.env :: X.outer) (hfr : X.env.frame = some X.env.locals) (hc : X.calm = true) (hN : X.N.Nodup) (hi : PI X tg iter (canI X.K it)) (ok : BlkOk X.N X.env.scope scope own) (nf : ∀ y ∈ scope.names, y.2 ≠ .free) (hv : ∀ i ∈ is, i ∈ own.map (·.2))
    (hg : ∀ (s : Shared) (H : Hp) (C : Addr) (cl : List (Str × Addr)) (fp : List Addr), PG (X.blk s H scope (compEnvC scope cl C X.env) fp) tg (canG X.K is g)) (he : ∀ (s : Shared) (H : Hp) (C : Addr) (cl : List (Str × Addr)) (fp : List Addr), PE (X.blk s H scope (compEnvC scope cl C X.env) fp) elt (can X.K e))
    (hr : ∀ (s : Shared) (H : Hp) (C0 : Addr) (cl : List (Str × Addr)) (fp : List Addr) (xe : Value → Shared → Prop) (W2 : WX), (∀ σ, PassesAt (L2.CX X.prog X.w) ((X.blk s H scope (compEnvC scope cl C0 X.env) fp).wish xe) σ (WE W2 σ)) → PE ((X.blk s H scope (compEnvC scope cl C0 X.env) fp).wish xe) elt (canE X.K C W2 R))
    (tk : Takes X W) (hs : ∀ x, foldedSetIterable iter X.env x = pure x := by intro _; rfl) :
    PE X (.ListComp elt [⟨tg, iter, [], 0⟩] scope pos) (canE X.K C W fun ρ => ∃ pre x post acc ρ1, it ρ = some (pre ++ x :: post) ∧ pre.length ≤ 100000 ∧ lcL g tYesD e (wipeD ρ (own.map (·.2))) pre = some acc ∧ g x (wipeD ρ (own.map (·.2))) = some ρ1 ∧ R ρ1) := by
  refine ⟨fun pins s σ H Q I ⟨G, ρ, Ev, ⟨pre, xd, post, acc0, ρ1, hit, hlen, hpre, hgx, hR⟩, k⟩ => ?_⟩
  generalize hvs : own.map (·.2) = vs at *
  refine wpAny_ListComp nf ok.kind (fun y hy e => by rw [ok.uniq y hy, e]) (thn (hi.run pins s σ H (fun J H1 => ∃ G1, Step G H G1 H1 ∧ ItD X.K J G1 (pre ++ xd :: post)) I ⟨G, ρ, _, Ev, hit, fun J G1 H1 s1 j => ⟨G1, s1, j⟩⟩) fun xv s1 hx => thn hx fun itv s2 h2 => ?_) hs
  obtain ⟨itA, fp, tn, J, H2, rfl, I2, T, st2, f2, G2, sp2, hJ⟩ := h2
  refine wpAny_newObj_type (newEnv_comp ?_) (by show 0 ≤ sizeLine; decide)
  generalize hD : s2.heap.objs.size = D
  have hDn : H2 D = none := I2.hok.fresh (Nat.le_of_eq hD)
  generalize hs3 : ({ s2 with heap := s2.heap.push { cls := .type "list", data := .seq ([] : List Value).toArray } } : Shared) = s3
  have h3 : s3.heap = s2.heap.push { cls := .type "list", data := .seq ([] : List Value).toArray } := by rw [← hs3]
  have kp3 : ∀ b o, s2.heap.get? b = some o → s3.heap.get? b = some o := fun b o e => by rw [h3]; exact Heap.get?_push_of_some _ e
  have I3 : L2.Inv X pins σ (upd H2 D (.lst [])) s3 := by
    rw [← hs3]
    refine I2.laid (t' := s2.toks) (fun b o e => Heap.get?_push_of_some _ e) (Nat.le_of_eq hD) ⟨Nat.zero_le _, [], 0, .nil, ?_⟩
    rw [← hD]
    exact Heap.get?_push_size _ rfl
  have sz : ∀ b ∈ fp, b < s2.heap.objs.size := fun b hb => by
    obtain ⟨o, e, _⟩ := T.obj _ _ st2 b hb
    exact Heap.lt_size e
  have f3 : ∀ b ∈ fp, FpOk X pins (upd H2 D (.lst [])) b ∧ b < s3.heap.objs.size := fun b hb => by
    have hlt := sz b hb
    refine ⟨⟨?_, (f2 b hb).2⟩, by rw [h3, Heap.size_push]; exact Nat.lt_succ_of_lt hlt⟩
    rw [upd_ne (by rw [← hD]; exact Nat.ne_of_lt hlt)]
    exact (f2 b hb).1
  have st3 : tn 0 s3.heap := T.keep _ _ _ st2 fun b _ o e => kp3 b o e
  have I4 := block_start I3 ok hN f3
  rw [hvs, clo_none nf] at I4
  have sp32 : Step G2 H2 G2 (upd H2 D (.lst [])) := .newOwn sp2.gh hDn
  have hGD : G2 D = none := sp2.gh.back hDn
  have E2 : EnvOk X.K G2 H2 σ ρ := Ev.step sp2
  generalize hH3 : upd H2 D (.lst []) = H3 at *
  have hD3 : H3 D = some (.lst []) := by rw [← hH3]; exact upd_same
  have ece : compEnvC scope (cellsFrom (s3.heap.objs.size + 1) scope.names []) s3.heap.objs.size X.env = { scope := scope, locals := s3.heap.objs.size, globals := X.env.globals, cells := cellsFrom (s3.heap.objs.size + 1) scope.names [], qual := X.env.qual, func := none, code := X.env.code, frame := X.env.frame, builtins := X.env.builtins } := by
    unfold compEnvC
    rw [relabel_none nf]
  have pg := hg s3 H3 s3.heap.objs.size (cellsFrom (s3.heap.objs.size + 1) scope.names []) fp
  have pe := he s3 H3 s3.heap.objs.size (cellsFrom (s3.heap.objs.size + 1) scope.names []) fp
  have pr := hr s3 H3 s3.heap.objs.size (cellsFrom (s3.heap.objs.size + 1) scope.names []) fp
  have key : ∀ (ce : Env), ce.locals = s3.heap.objs.size → ce.frame = X.env.frame → L2.Inv (X.blk s3 H3 scope ce fp) [] (wipe σ vs) H3 { s3 with heap := pushCells (s3.heap.push { cls := .type "dict", data := .dict #[] }) scope.names } →
      PG (X.blk s3 H3 scope ce fp) tg (canG X.K is g) → PE (X.blk s3 H3 scope ce fp) elt (can X.K e) → (∀ (xe : Value → Shared → Prop) (W2 : WX), (∀ σ, PassesAt (L2.CX X.prog X.w) ((X.blk s3 H3 scope ce fp).wish xe) σ (WE W2 σ)) → PE ((X.blk s3 H3 scope ce fp).wish xe) elt (canE X.K C W2 R)) →
      codeAny (model X.prog X.w) X.A (.compStart (.ListComp elt [⟨tg, iter, [], 0⟩] scope pos) 0 (.ref itA) (.ref D) ce) (fun r s' => ∃ m, s'.heap.Ns ce.locals m ∧ ∀ h', Heap.SameBut ce.locals s'.heap h' →
        match r with | .ok _ => EP X pins σ Q (.ref D) { s' with heap := h' } | .error x => wpAny (model X.prog X.w) X.A (PySem.passOn "comprehension.variables-let-go" x ce) (EP X pins σ Q) X.xe { s' with heap := h' }) { s3 with heap := pushCells (s3.heap.push { cls := .type "dict", data := .dict #[] }) scope.names } := by
    intro ce cL cF I4 pg pe pr
    generalize hRR : (fun (r : Result) (s' : Shared) => ∃ m, s'.heap.Ns ce.locals m ∧ ∀ h', Heap.SameBut ce.locals s'.heap h' →
        match r with | .ok _ => EP X pins σ Q (.ref D) { s' with heap := h' } | .error x => wpAny (model X.prog X.w) X.A (PySem.passOn "comprehension.variables-let-go" x ce) (EP X pins σ Q) X.xe { s' with heap := h' }) = RR
    generalize hs4 : ({ s3 with heap := pushCells (s3.heap.push { cls := .type "dict", data := .dict #[] }) scope.names } : Shared) = s4 at I4 ⊢
    have st4 : tn 0 s4.heap := T.keep _ _ _ st3 fun b _ o e => by rw [← hs4]; exact pushCells_keeps _ _ _ _ (Heap.get?_push_of_some _ e)
    have nfp : ∀ b ∈ fp, H3 b = none := fun b hb => (f3 b hb).1.1
    have stat : ∀ {σ' : L2.St} {H' : Hp} {s' : Shared}, L2.Inv (X.blk s3 H3 scope ce fp) [] σ' H' s' → (∀ b ∈ fp, H' b = none) → ∀ b ∈ fp, FpOk (X.blk s3 H3 scope ce fp) [] H' b := fun {σ' H' s'} I' hn b hb =>
      ⟨hn b hb, (I'.ok.exf b hb).1, I'.ok.exfs b hb, .inl hb, fun x c e => (I'.ok.exf b hb).2 x c e, fun p hp => absurd (show p ∈ ([] : List (Addr × Obj)) ++ [] from hp) (by simp)⟩
    have loop : codeAny (model X.prog X.w) X.A (.compLoop (.ListComp elt [⟨tg, iter, [], 0⟩] scope pos) 0 (.ref itA) (.ref D) ce) RR s4 := by
      refine compLoop_any (fun n s' => ∃ i H' G' ws tl, n + i = pre.length ∧ L2.Inv (X.blk s3 H3 scope ce fp) [] (wipe σ vs) H' s' ∧ tn i s'.heap ∧ (∀ b ∈ fp, H' b = none) ∧ Step G2 H2 G' H' ∧ G' D = none ∧ H' D = some (.lst ws) ∧ ws.length ≤ i ∧ lcL g tYesD e (wipeD ρ vs) (pre.drop i) = some tl) ?_ pre.length
        ⟨0, H3, G2, [], acc0, rfl, I4, st4, nfp, sp32, hGD, hD3, Nat.le_refl _, by simpa using hpre⟩
      rintro n s5 ⟨i, H5, G5, ws, tl, hn, I5, st5, n5, sp5, g5, d5, l5, t5⟩
      have hi' : i < (pre ++ xd :: post).length := by rw [List.length_append, List.length_cons]; omega
      have ti := T.item (X.blk s3 H3 scope ce fp) rfl rfl rfl hc i [] s5 _ H5 (fun _ _ => False) I5 (stat I5 n5) st5 (hJ.go i G5 H5 sp5.g sp5.gh hi')
      refine thnF ti fun r s6 ⟨u, hr6, h6⟩ => ?_
      subst hr6
      refine thnF h6 fun _ s7 ⟨x, H7, I7, r7, y7, st7, n7⟩ => ?_
      have I7' := I7.pinned (stat I7 n7) (T.obj _ _ st7)
      obtain ⟨d, G7, hd7, sp7, rp7⟩ := hJ.yld i G5 H5 H7 x sp5.g sp5.gh hi' y7
      have E7 : EnvOk X.K G7 H7 (wipe σ vs) (wipeD ρ vs) := ((E2.step sp5).step sp7).wipe vs
      have spn : Step G2 H2 G7 H7 := sp5.trans sp7
      have hD7 : H7 D = some (.lst ws) := sp7.h D _ d5
      have hG7 : G7 D = none := (sp7.fo D _ d5 (fun xs e => nomatch e)).trans g5
      -- the pins hold on
      have pin : ∀ {s' : Shared} {H' : Hp} {σ8 : L2.St}, L2.Inv (X.blk s3 H3 scope ce fp) ([] ++ pinsAt fp s7.heap) σ8 H' s' → ∀ b ∈ fp, ∀ o, s7.heap.get? b = some o → s'.heap.get? b = some o ∧ H' b = none := fun {s' H' σ8} I' b hb o e =>
        let z := I'.pin (b, o) (List.mem_append_right _ (List.mem_append_right _ (mem_pinsAt hb e)))
        ⟨z.1, z.2.1⟩
      rcases Nat.lt_or_ge i pre.length with hlt | hge
      · -- a turn that goes on
        have hdp : pre[i]? = some d := by rw [List.getElem?_append_left hlt] at hd7; exact hd7
        have hdr : pre.drop i = d :: pre.drop (i + 1) := by
          have := List.getElem?_eq_some_iff.mp hdp
          obtain ⟨_, h2⟩ := this
          rw [← h2]; exact List.drop_eq_getElem_cons hlt
        rw [hdr] at t5
        unfold lcL at t5
        obtain ⟨ρ2, hρ2, t5⟩ := Option.bind_eq_some_iff.mp t5
        obtain ⟨b, hb, t5⟩ := Option.bind_eq_some_iff.mp t5
        cases hb
        rw [if_pos rfl] at t5
        obtain ⟨dd, hdd, t5⟩ := Option.bind_eq_some_iff.mp t5
        obtain ⟨tl', htl', _⟩ := Option.map_eq_some_iff.mp t5
        refine thnF (pg.run _ s7 _ H7 x u (fun σ8 H8 => ∃ G8, EnvOk X.K G8 H8 σ8 ρ2 ∧ Step G7 H7 G8 H8 ∧ wipe σ8 vs = wipe σ vs) I7' r7 ⟨G7, _, d, ρ2, E7, rp7, hρ2, fun σ8 G8 H8 E8 sp8 k8 => ⟨G8, E8, sp8, by rw [k8.wp vs (by rw [← hvs]; rw [hvs]; exact hv), wipe_wipe]⟩⟩) fun _ s8 ⟨σ8, H8, I8, G8, E8, sp8, hw8⟩ => ?_
        rw [List.forIn_nil]
        refine wpAny_pure ?_
        rw [if_pos rfl]
        refine thnF (pe.run _ s8 σ8 H8 (fun y H9 => ∃ G9, Step G8 H8 G9 H9 ∧ Rp X.K G9 y dd) I8 ⟨G8, ρ2, dd, E8, hdd, fun y G9 H9 sp9 r9 => ⟨G9, sp9, r9⟩⟩) fun z s9 ⟨yv, H9, I9, r9, G9, sp9, _⟩ => ?_
        have sp79 : Step G7 H7 G9 H9 := sp8.trans sp9
        have hD9 : H9 D = some (.lst ws) := sp79.h D _ hD7
        have hG9 : G9 D = none := (sp79.fo D _ hD7 (fun xs e => nomatch e)).trans hG7
        have sp39 : Step G2 H2 G9 H9 := spn.trans sp79
        refine app_ok (X := X.blk s3 H3 scope ce fp) I9 hD9 (by rw [lim_eq]; exact Nat.lt_of_le_of_lt (Nat.le_trans l5 (Nat.le_trans (Nat.le_of_lt hlt) hlen)) (by decide)) r9 fun s10 I10 => ?_
        have hl : (wipe σ vs).length = σ8.length := by rw [← hw8, wipe_length]
        refine ⟨n - 1, by omega, i + 1, upd H9 D (.lst (ws ++ [yv])), G9, ws ++ [yv], tl', by omega, (I10.unpinned (pins := [])).weak hl (fun j v ej => ?_), T.keep _ _ _ st7 fun b hb o ej => (pin I10 b hb o ej).1, fun b hb => ?_, ?_, hG9, upd_same, ?_, htl'⟩
        · rw [← hw8] at ej
          exact (wipe_some ej).1
        · obtain ⟨o, ej, _⟩ := T.obj _ _ st7 b hb
          exact (pin I10 b hb o ej).2
        · refine ⟨sp39.g, fun a o q => ?_, fun a o q => ?_, sp39.fo⟩
          · rw [upd_ne (ne_of_none q hDn)]; exact sp39.h a o q
          · rw [upd_ne (ne_of_none q hG9)]; exact sp39.gh a o q
        · rw [List.length_append]; exact Nat.succ_le_succ l5
      · -- the turn that raises
        have ei : i = pre.length := by omega
        have hdx : d = xd := by
          rw [List.getElem?_append_right hge, ei, Nat.sub_self] at hd7
          exact (Option.some.inj hd7).symm
        subst hdx
        refine thnF (pg.run _ s7 _ H7 x u (fun σ8 H8 => ∃ G8, EnvOk X.K G8 H8 σ8 ρ1 ∧ Step G7 H7 G8 H8) I7' r7 ⟨G7, _, d, ρ1, E7, rp7, hgx, fun σ8 G8 H8 E8 sp8 k8 => ⟨G8, E8, sp8⟩⟩) fun _ s8 ⟨σ8, H8, I8, G8, E8, sp8⟩ => ?_
        rw [List.forIn_nil]
        refine wpAny_pure ?_
        rw [if_pos rfl]
        refine wpAny_mono ((pr (Let (X.blk s3 H3 scope ce fp) fun cls d _ H' => W cls d σ H') (fun cls d _ H' => W cls d σ H') fun σ' => let_passes σ').run _ s8 σ8 H8 (fun _ _ => False) (I8.wish _) ⟨G8, ρ1, E8, hR, fun G9 H9 sp9 => k G9 H9 (sp2.trans (spn.trans (sp8.trans sp9)))⟩) (fun z s9 ⟨_, _, _, _, q⟩ => q.elim) fun ev s9 ⟨xx, a, ea, fw⟩ => ?_
        subst ea
        subst hRR
        show wpAny (model X.prog X.w) X.A (noteFrame (.ref a) ce) _ _ s9
        exact leave_blk hst hfr I3 cL cF (fun b hb => (f3 b hb).1) tk (fun _ _ _ _ h => h) xx fw
    exact codeAny_compStart_list loop (T.self X.A 0 _ _ _ st4 loop)
  have := key (compEnvC scope (cellsFrom (s3.heap.objs.size + 1) scope.names []) s3.heap.objs.size X.env) rfl rfl I4 pg pe pr
  rw [ece] at this
  exact this
end
end Cc

-- part Cc21
set_option maxHeartbeats 2000000
/-! Texts read: signs, int(text), lists that the body stores into, expressions that raise. -/
namespace Cc
open PySem PySem.Spec PyProof.Rows L2
/-! ### signs -/
def inSD : Dt → Dt → Option Dt
  | .str x, .str z => match x.cps.toList with
    | [c] => some (.bool (decide (c ∈ z.cps.toList)))
    | _ => none
  | _, _ => none
abbrev rInSign : R2 := fun x y H Q => ∃ (c : Nat) (z : Str), x = .str ⟨#[c]⟩ ∧ y = .str z ∧ Q (.bl (decide (c ∈ z.cps.toList))) H
theorem op2_inS {K : PySem.W.Frag} : Op2 K rInSign inSD := by
  intro x y G H d e c Q e0 rx ry hg k
  unfold inSD at hg
  split at hg
  · next u z =>
    split at hg
    · next n h =>
      cases hg
      obtain ⟨⟨l⟩⟩ := u
      have h : l = [n] := h
      subst h
      exact ⟨n, z, rx.str, ry.str, k _ G H (.refl e0) (.bl _)⟩
    · cases hg
  · cases hg
def signsD (z : Str) : List Dt := z.cps.toList.map fun c => .str ⟨#[c]⟩
theorem its_data {K : PySem.W.Frag} {G : Hp} (z : Str) : ItD K (Its z) G (signsD z) where
  go := fun i G' H' e e' hi => by
    have : i < z.cps.size := by simpa [signsD] using hi
    exact this
  yld := fun i G' H' H2 v e e' hi y => by
    obtain ⟨rfl, c, hc, rfl⟩ := y
    refine ⟨.str ⟨#[c]⟩, G', ?_, .refl e', .str _⟩
    unfold signsD
    rw [List.getElem?_map, Array.getElem?_toList, hc] <;> rfl
  stop := fun i G' H' e e' hi => by
    have : z.cps.size ≤ i := by simpa [signsD] using hi
    exact this
def iStrD (f : EF) : AF := fun ρ => match f ρ with
  | some (.str z) => some (signsD z)
  | _ => none
/-- int(a text) -/
def intSD : List Dt → Option Dt
  | [.str z] => if z.length ≤ 640 then (PySem.intText? z).map .int else none
  | _ => none
abbrev rIntS : List V → Hp → VK → Prop := fun xs H Q => ∃ a n, xs = [.str a] ∧ PySem.intText? a = some n ∧ a.length ≤ 640 ∧ Q (.int n) H
theorem cal_intS {K : PySem.W.Frag} : Cal K rIntS intSD := by
  intro vs G H ds c Q e0 r hg k
  unfold intSD at hg
  split at hg
  · next z =>
    split at hg
    · next hl =>
      obtain ⟨n, hn, rfl⟩ := Option.map_eq_some_iff.mp hg
      obtain ⟨v, rfl, rv⟩ := paired1 r
      exact ⟨z, n, by rw [rv.str], hn, hl, k _ G H (.refl e0) (.int _)⟩
    · cases hg
  · cases hg
section
variable {X : Cx} {a b e : Expr} {es : List Expr} {f h : EF} {fs : AF} {pos : Pos} {C : Addr} {W : WX} {R R1 R2 : Dn → Prop} {Rd : List Dt → Prop} {E : XK} {sts : List Stmt}
theorem di_str {tg : Expr} (he : PE X e (can X.K f)) : PI X tg e (canI X.K (iStrD f)) := by
  refine ⟨fun pins s σ H R I ⟨G, ρ, xs, Ev, hf, k⟩ => ?_⟩
  unfold iStrD at hf
  split at hf
  · next z h =>
    cases hf
    refine (pi_str he).run pins s σ H R I ⟨G, ρ, _, Ev, h, fun v G1 H1 s1 r1 => ?_⟩
    exact ⟨z, r1.of_str, k _ G1 H1 s1 (its_data z)⟩
  · cases hf
/-! ### expressions that raise -/
theorem re_or (h1 : PE X e (canE X.K C W R1)) (h2 : PE X e (canE X.K C W R2)) : PE X e (canE X.K C W fun ρ => R1 ρ ∨ R2 ρ) :=
  ⟨fun pins s σ H Q I ⟨G, ρ, Ev, hR, k⟩ => hR.elim (fun q => h1.run pins s σ H Q I ⟨G, ρ, Ev, q, k⟩) fun q => h2.run pins s σ H Q I ⟨G, ρ, Ev, q, k⟩⟩
theorem rs_or (h1 : PSs X sts (canB X.K C E R1)) (h2 : PSs X sts (canB X.K C E R2)) : PSs X sts (canB X.K C E fun ρ => R1 ρ ∨ R2 ρ) :=
  ⟨fun pins s σ H D I ⟨G0, H0, G, ρ, S, hR, k⟩ => hR.elim (fun q => h1.run pins s σ H D I ⟨G0, H0, G, ρ, S, q, k⟩) fun q => h2.run pins s σ H D I ⟨G0, H0, G, ρ, S, q, k⟩⟩
theorem pa_no : PA X es (fun _ _ _ => False) := ⟨fun _ _ _ _ _ _ _ h => h.elim⟩
theorem re_tupA {kk : Nat} (ha : PE X a (canE X.K C W R)) (hst : starEach [a, b] X.env = (false, eval a X.env) :: starEach [b] X.env := by rfl) : PE X (.Tuple [a, b] kk pos) (canE X.K C W R) :=
  pe_imp (pe_tup (pa_cons ha pa_no hst)) fun σ H Q h => h
theorem re_tupB {kk : Nat} (ha : PE X a (can X.K f)) (hb : PE X b (canE X.K C W R)) (hst : starEach [a, b] X.env = (false, eval a X.env) :: starEach [b] X.env := by rfl) (hst2 : starEach [b] X.env = (false, eval b X.env) :: starEach [] X.env := by rfl) :
    PE X (.Tuple [a, b] kk pos) (canE X.K C W fun ρ => (∃ d, f ρ = some d) ∧ R ρ) :=
  pe_imp (pe_tup (pa_cons ha (pa_cons hb pa_no hst2) hst)) fun σ H Q ⟨G, ρ, Ev, ⟨⟨d, hd⟩, hR⟩, k⟩ => ⟨G, ρ, d, Ev, hd, fun v G1 H1 s1 r1 => ⟨G1, ρ, Ev.step s1, hR, fun G2 H2 s2 => k G2 H2 (s1.trans s2)⟩⟩
theorem re_ty1 {T : String} {r : List V → Hp → VK → Prop} {x : Str} {p : Pos} (hc : CallR X (.type T) r) (hg : Gl X x) (hm : X.mg x = none) (hv : bootBuiltins x = some (.type T)) (he : PE X e (canE X.K C W R)) (hn : x ≠ "__name__" := by decide) (hdb : (x == ("__debug__" : Str)) = false := by decide)
    (hst : starEach [e] X.env = (false, eval e X.env) :: starEach [] X.env := by rfl) (hpl : (backTo pos (starEach [] X.env)).any (·.1) = false := by rfl) : PE X (.Call (.Name x p) [e] [] pos) (canE X.K C W R) :=
  pe_imp (pe_callTy hc hg hm hv (pa_cons he pa_no hst) hn hdb hst hpl) fun σ H Q h => h
/-- a call that raises, in a comprehension -/
theorem re_callP {k : Nat} {g : Addr} {fd : FuncData} {ps : List Str} {x : Str} {p : Pos} (ok : FnOk X.prog X.w X.K X.mg X.base (L2.CX X.prog X.w) k g fd ps (spR X.K C Rd)) (hr : Room k X.A) (hg : Gl X x) (hm : X.mg x = some (.ref g))
    (hk : PySem.W.keepIn X.K (.ref g) = true) (hb : Binds X.K fd ps []) (hx : ∀ σ, PassesAt (L2.CX X.prog X.w) X σ (WE W σ)) (ha : PA X (e :: es) (canA X.K fs)) (hdb : (x == ("__debug__" : Str)) = false := by decide) (he : starEach (e :: es) X.env = (false, eval e X.env) :: starEach es X.env := by rfl)
    (hpl : (backTo pos (starEach es X.env)).any (·.1) = false := by rfl) : PE X (.Call (.Name x p) (e :: es) [] pos) (canE X.K C W fun ρ => ∃ ds, fs ρ = some ds ∧ Rd ds) :=
  pe_imp (pe_callS ok hr hg hm hk hb hx ha hdb he hpl) fun σ H Q ⟨G, ρ, Ev, ⟨ds, hds, hR⟩, k⟩ =>
    ⟨G, ρ, ds, Ev, hds, fun vs G1 H1 s1 r1 => ⟨G1, ds, s1.gh, r1, hR, fun G2 H2 s2 => k G2 H2 (s1.trans s2)⟩⟩
theorem rs_ret (he : PE X e (canE X.K C (fun cls d _ H => E cls d H) R)) : PSs X [.Return (some e) pos] (canB X.K C E R) :=
  pss_imp (pss_one (ps_ret he)) fun D σ H ⟨G0, H0, G, ρ, S, hR, k⟩ => ⟨G, ρ, S.env, hR, fun G' H' s => k G' H' (S.st.trans s)⟩
/-! ### lists that the body stores into -/
def sumLD (f h : EF) : AF := fun ρ => (f ρ).bind fun d => (h ρ).bind fun e => (asL d).bind fun xs => (asL e).bind fun ys => if xs.length + ys.length ≤ Lim then some (xs ++ ys) else none
theorem dl_add (ha : PE X a (canW X.K f)) (hb : PE X b (canW X.K h)) : PE X (.BinOp a .Add b pos) (canL X.K (sumLD f h)) :=
  pe_imp (pe_op op_addAll ha hb) fun σ H Q ⟨G, ρ, ds, Ev, hf, k⟩ => by
    unfold sumLD at hf
    obtain ⟨d, hd, hf⟩ := Option.bind_eq_some_iff.mp hf
    obtain ⟨c, hc, hf⟩ := Option.bind_eq_some_iff.mp hf
    obtain ⟨xs, hx, hf⟩ := Option.bind_eq_some_iff.mp hf
    obtain ⟨ys, hy, hf⟩ := Option.bind_eq_some_iff.mp hf
    cases asL_some hx
    cases asL_some hy
    obtain ⟨hl, rfl⟩ := lim_if hf
    refine ⟨G, ρ, _, Ev, hd, fun v G1 H1 s1 r1 => ⟨G1, ρ, _, Ev.step s1, hc, fun w G2 H2 s2 r2 => ?_⟩⟩
    obtain ⟨p, vs, rfl, hp, rp⟩ := (r1.step s2).lst s2.gh
    obtain ⟨q, ws, rfl, hq, rq⟩ := r2.lst s2.gh
    refine .inr (.inr (.inl ⟨p, q, vs, ws, rfl, rfl, hp, hq, by rw [paired_len rp, paired_len rq]; exact hl, fun l hn => ?_⟩))
    have s12 := s1.trans s2
    have s3 : Step G2 H2 G2 (upd H2 l (.lst (vs ++ ws))) := .newOwn s2.gh hn
    exact k l (vs ++ ws) _ _ (s12.trans s3) (s12.h.back hn) (s2.gh.back hn) upd_same (paired_app rp rq)
def splitL (f h : EF) : AF := fun ρ => (f ρ).bind fun d => (h ρ).bind fun e => (splitD d e).bind asL
theorem dl_split {p2 pos' : Pos} (ha : PE X a (canW X.K f)) (hb : PE X b (canW X.K h)) (hst : starEach [b] X.env = [(false, eval b X.env)] := by rfl) (hat : attributeBase a "split" X.env (eval a X.env) = eval a X.env := by rfl) (hln : (p2.endLine == pos'.line) = true := by rfl) :
    PE X (.Call (.Attribute a "split" p2) [b] [] pos') (canL X.K (splitL f h)) :=
  pe_imp (pe_split ha hb hst hat hln) fun σ H Q ⟨G, ρ, ds, Ev, hf, k⟩ => by
    unfold splitL at hf
    obtain ⟨d, hd, hf⟩ := Option.bind_eq_some_iff.mp hf
    obtain ⟨c, hc, hf⟩ := Option.bind_eq_some_iff.mp hf
    obtain ⟨o, ho, hf⟩ := Option.bind_eq_some_iff.mp hf
    obtain ⟨z, y, rfl, rfl, hl, rfl⟩ := splitD_some ho
    cases hf
    refine ⟨G, ρ, _, Ev, hd, fun v G1 H1 s1 r1 => ⟨⟨z, r1.str⟩, G1, ρ, _, Ev.step s1, hc, fun w G2 H2 s2 r2 => ?_⟩⟩
    refine ⟨z, y, (r1.step s2).str, by rw [r2.str], hl.1, by rw [lim_eq]; exact hl.2, fun l hn => ?_⟩
    have s12 := s1.trans s2
    have s3 : Step G2 H2 G2 (upd H2 l (.lst ((Txt.split z y).map V.str))) := .newOwn s2.gh hn
    exact k l _ _ _ (s12.trans s3) (s12.h.back hn) (s2.gh.back hn) upd_same (strs_rps _)
/-- x[j] = e, x the body's own list -/
def sStore (i : Nat) (fj fe : EF) : SF := fun ρ => match ρ[i]? with
  | some (.own ds) => (fe ρ).bind fun d => (asI (fj ρ)).bind fun k => (ixN ds.length k).map fun j => .nx (ρ.set i (.own (ds.set j d)))
  | _ => none
theorem ds_store (i : Nat) {x : Str} {p1 p2 : Pos} (he : PE X e (can X.K f)) (hj : PE X b (can X.K h)) (hN : X.N[i]? = some x := by rfl) (hv : Vis X.env.scope x := by first | exact Or.inl rfl | exact Or.inr (Or.inl rfl) | exact Or.inr (Or.inr rfl)) (hd : (x == ("__debug__" : Str)) = false := by decide)
    (hcd : (x == ("__classdict__" : Str)) = false := by decide) (hs : swapsWithSole [.Subscript (.Name x p1) b p2] e pos.line X.env = pure false := by rfl) (hw : swappedStores [.Subscript (.Name x p1) b p2] e X.env = pure none := by rfl)
    (h1 : (assignEach [.Subscript (.Name x p1) b p2] X.env).map (·.2) = [assign (.Subscript (.Name x p1) b p2) X.env] := by rfl) (ha : ∀ v, assign (.Subscript (.Name x p1) b p2) X.env v = (do
      let ov ← holding [v] (eval (.Name x p1) X.env)
      let iv ← holding [v, ov] (eval b X.env)
      standAt p2
      holding [v, ov, iv] (setItem ov iv v)
      release [v, ov, iv] []) := by intro _; rfl) : PS X (.Assign [.Subscript (.Name x p1) b p2] e pos) (canS X.K (sStore i h f)) :=
  ps_imp (ps_asg he (pg_sub (pv i hN hv hd hcd) hj set_list ha) hs hw h1) fun D σ H ⟨G0, H0, G, ρ, r, S, hb, k⟩ => by
    unfold sStore at hb
    split at hb
    · next ds hi =>
      obtain ⟨d, hd', hb⟩ := Option.bind_eq_some_iff.mp hb
      obtain ⟨n, hn, hb⟩ := Option.bind_eq_some_iff.mp hb
      obtain ⟨j, hj', rfl⟩ := Option.map_eq_some_iff.mp hb
      obtain ⟨p, o, z1, z2, z3, z4⟩ := S.env.own i _ hi rfl
      obtain ⟨vs, rfl, rv⟩ := own_lst z4
      refine ⟨G, ρ, d, S.env, hd', fun v G1 H1 s1 r1 => ⟨.ref p, z1, G1, ρ, .int n, S.env.step s1, asI_some hn, fun w G2 H2 s2 r2 => ?_⟩⟩
      have s12 := s1.trans s2
      refine ⟨p, vs, n, j, rfl, r2.of_int, s12.h p _ z3, by rw [paired_len rv]; exact hj', ?_⟩
      have S2 := S.step s12
      exact k _ G2 _ s12.g (S2.change hi rfl rfl z1 ((s12.fo p _ z3 (fun xs e => nomatch e)).trans z2) (s12.h p _ z3) (show OwnRep X.K G2 (.lst (vs.set j v)) (.own (ds.set j d)) from paired_set (r1.mono s2.g) j (Rps.mono s12.g rv)))
    · cases hb
end
/-! ### try: x = (a call) / except C as n: y = (what the caught one is), and on -/
theorem EnvOk.any {K : PySem.W.Frag} {G H : Hp} {σ : L2.St} {ρ : Dn} (Ev : EnvOk K G H σ ρ) (i : Nat) (x : Option V) : EnvOk K G H (σ.set i x) (ρ.set i .unk) where
  gh := Ev.gh
  len := by rw [List.length_set, List.length_set]; exact Ev.len
  val := fun j d h => by
    by_cases hj : i = j
    · subst hj; have := get_set_self h; cases this
    · rw [get_set_ne hj] at h ⊢; exact Ev.val j d h
  scr := fun j ns h => by
    by_cases hj : i = j
    · subst hj; have := get_set_self h; cases this
    · rw [get_set_ne hj] at h ⊢; exact Ev.scr j ns h
  own := fun j s h hs => by
    by_cases hj : i = j
    · subst hj; have := get_set_self h; subst this; cases hs
    · rw [get_set_ne hj] at h ⊢; exact Ev.own j s h hs
  sep := fun j k s s' a h1 o1 h2 o2 g1 g2 => by
    by_cases hj : i = j
    · subst hj; have := get_set_self h1; subst this; cases o1
    · by_cases hk : i = k
      · subst hk; have := get_set_self h2; subst this; cases o2
      · rw [get_set_ne hj] at h1 g1
        rw [get_set_ne hk] at h2 g2
        exact Ev.sep j k s s' a h1 o1 h2 o2 g1 g2
theorem SOk.any {K : PySem.W.Frag} {G0 H0 G H : Hp} {σ : L2.St} {ρ : Dn} (S : SOk K G0 H0 G H σ ρ) (i : Nat) (x : Option V) : SOk K G0 H0 G H (σ.set i x) (ρ.set i .unk) :=
  ⟨S.st, S.env.any i x, fun j s a h1 h2 h3 => by
    by_cases hj : i = j
    · subst hj; have := get_set_self h1; subst this; cases h2
    · rw [get_set_ne hj] at h1 h3; exact S.fr j s a h1 h2 h3⟩
theorem step_ex {G H H' : Hp} (e : Ex G H) (e' : Ex H H') : Step G H G H' := ⟨.refl _, e', e.trans e', fun _ _ _ _ => rfl⟩
/-- the handler: y (slot j) gets True, then B -/
def tsB (K : PySem.W.Frag) (C : Addr) (i j : Nat) (B : SF) : Addr → Value → Option Addr → TS := fun a cls d D σ H => cls = .ref C ∧ d = none ∧ σ[i]? = some (some (.ref a)) ∧ ∃ G0 H0 G ρ r, SOk K G0 H0 G H σ ρ ∧ B (ρ.set j (.val (.bool true))) = some (.rt r) ∧ Fin K G0 H0 G D (.rt r)
section
variable {X : Cx} {x n y : Str} {C : Addr} {i j : Nat} {body suite : List Stmt} {e1 : Expr} {np p1 pos pos' pos2 : Pos} {R : Dn → Prop} {A B : SF}
theorem pss_tsB {a : Addr} {cls : Value} {d : Option Addr} (hN : X.N.Nodup) (hj : X.N[j]? = some y) (hy : Loc X.env.scope y) (he : cls = .ref C → d = none → PE X e1 (canY i a true)) (hB : PSs X suite (canS X.K B)) (hs : swapsWith e1 (some (.Name y p1)) pos2.line X.env = pure false := by rfl)
    (hf : X.fn y = true ∨ X.env.scope.names.lookup y = some .local := by first | exact .inl rfl | exact .inr rfl | assumption) : PSs X (.Assign [.Name y p1] e1 pos2 :: suite) (tsB X.K C i j B a cls d) := by
  refine ⟨fun pins s σ H D I q => ?_⟩
  obtain ⟨h1, h2, h3, G0, H0, G, ρ, r, S, hb, k⟩ := q
  refine (pss_cons (ps_set hN hj hy (he h1 h2) hs hf) hB).run pins s σ H D I ⟨h3, fun H' e' => ?_⟩
  have S' := S.step (step_ex S.env.gh e')
  exact ⟨G0, H0, G, _, _, S'.set (.bl true), hb, k⟩
noncomputable def sTryB (i j : Nat) (R : Dn → Prop) (A B : SF) : SF := fun ρ => open Classical in if R ρ then (match B ((ρ.set i .unk).set j (.val (.bool true))) with
  | some (.rt d) => if i < ρ.length then some (.rt d) else none
  | _ => none) else A ρ
theorem sTryB_of {ρ : Dn} {d : Dt} (h : R ρ) (h1 : i < ρ.length) (h2 : B ((ρ.set i .unk).set j (.val (.bool true))) = some (.rt d)) : sTryB i j R A B ρ = some (.rt d) := by
  unfold sTryB
  rw [if_pos h, h2]
  exact if_pos h1
theorem sTryB_no {ρ : Dn} (h : ¬ R ρ) : sTryB i j R A B ρ = A ρ := by
  unfold sTryB
  rw [if_neg h]
theorem ps_tryB {b₀ : Stmt} (hs : X.stack = X.env :: X.outer) (hf : X.env.frame = some X.env.locals) (hN : X.N.Nodup) (hi : X.N[i]? = some n) (hln : X.env.kindOf n = some .local) (hc : Names X x (.ref C)) (tk : Takes X (fun _ _ _ _ => False))
    (hcl : PySem.W.exmOne X.K (.ref C) (.ref C) = some true) (hA : PSs X.nox body (canS X.K A))
    (hb : ∀ (W : WX) (pn : List (Addr × Obj)) (xe : Value → Shared → Prop), Takes (X.tr pn xe) W → PSs (X.tr pn xe) body (fun _ σ H => canE X.K C W R σ H fun _ _ => False))
    (hsu : ∀ (a : Addr) (oe : Obj) (cls : Value) (d : Option Addr) (pn : List (Addr × Obj)), Zc cls d oe → (∃ vs, oe.data = .fields vs) → PSs (X.suite a ((a, oe) :: pn)) (b₀ :: suite) (tsB X.K C i j B a cls d)) :
    PS X (.Try body [.ExceptHandler (some (.Name x np)) (some n) (b₀ :: suite) pos'] [] [] pos) (canS X.K (sTryB i j R A B)) := by
  have h1 := ps_try_as (pos := pos) (pos' := pos') (np := np) (tb := fun W _ σ H => canE X.K C W R σ H fun _ _ => False) (ts := tsB X.K C i j B) (Wout := fun _ _ _ _ => False) hs hf hN hi hln hc tk (fun W pn xe tk _ => hb W pn xe tk) hsu
  have h2 := ps_try_thru0 (pos := pos) (h₀ := .ExceptHandler (some (.Name x np)) (some n) (b₀ :: suite) pos') (hs := []) hA
  refine ⟨fun pins s σ H D I ⟨G0, H0, G, ρ, r, S, hr, k⟩ => ?_⟩
  unfold sTryB at hr
  split at hr
  · next hR =>
    split at hr
    · next d hB =>
      split at hr
      · next hlt =>
        cases hr
        refine h1.run pins s σ H D I ⟨G, ρ, S.env, hR, fun G' H' st => ⟨true, hcl, fun _ a ha => ⟨rfl, rfl, get_set_lt (by rw [S.env.len]; exact hlt), G0, H0, G', ρ.set i .unk, d, (S.step st).any i _, hB, fun v G2 H2 s2 r2 => k v G2 H2 s2 r2⟩, fun z => nomatch z⟩⟩
      · cases hr
    · cases hr
  · next hR => exact h2.run pins s σ H D I ⟨G0, H0, G, ρ, r, S, hr, k⟩
end
end Cc
namespace Cc
open PySem PySem.Spec PyProof.Rows L2
/-! ### a module's tuple of ints, on the right of in -/
def clsTup : Value → Bool
  | .type s => s == "tuple"
  | _ => false
def tupCB (o : Obj) (d : Dt) : Bool := clsTup o.cls && match o.data, d with
  | .seq its n, .tuple ds => decide (its.size ≤ 1000) && (valIntsB its.toList ds).isSome
  | _, _ => false
/-- a module's constant, by what it is alone -/
def GlobD (K : PySem.W.Frag) (mg : Str → Option Value) (x : Str) (d : Dt) : Prop := ∃ v u, mg x = some u ∧ RelV v u ∧ ∀ H, Dp K H v d
theorem dps_ints {K : PySem.W.Frag} {H : Hp} : ∀ l : List Int, DpAll K H (l.map V.int) (l.map .int)
  | [] => .nil
  | i :: l => .cons (.int i) (dps_ints l)
theorem globD_tup {K : PySem.W.Frag} {mg : Str → Option Value} {x : Str} {a : Addr} {o : Obj} {d : Dt} (hm : mg x = some (.ref a)) (hl : K.lookup a = some o) (hs : tupCB o d = true) : GlobD K mg x d := by
  unfold tupCB at hs
  rw [Bool.and_eq_true] at hs
  obtain ⟨hc, hs⟩ := hs
  have hc' : o.cls = .type "tuple" := by
    unfold clsTup at hc
    split at hc
    · next s e => rw [e, eq_of_beq hc]
    · cases hc
  split at hs
  · next its n ds e =>
    rw [Bool.and_eq_true, decide_eq_true_eq] at hs
    obtain ⟨ns, hn⟩ := Option.isSome_iff_exists.mp hs.2
    obtain ⟨h1, h2⟩ := valInts_ok hn
    refine ⟨.ref a, .ref a, hm, rfl, fun H => ?_⟩
    rw [h2]
    have h3 : SqT K H a (ns.map V.int) := .inr ⟨o, its, n, hl, hc', e, Nat.le_trans hs.1 (by rw [sizeLine_eq]; decide), h1⟩
    exact .tup h3 (dps_ints ns)
  · cases hs
theorem inD_some {d e c : Dt} (h : inD d e = some c) : ∃ ds, (e = .list ds ∨ e = .tuple ds) ∧ SeqAt.shaped d = true ∧ SeqAt.shaped (.list ds) = true ∧ c = .bool (ds.any fun z => PyData.eqv z d) := by
  unfold inD at h
  split at h
  · next ds =>
    split at h
    · next q =>
      cases h
      rw [Bool.and_eq_true] at q
      exact ⟨ds, .inl rfl, q.1, q.2, rfl⟩
    · cases h
  · next ds =>
    split at h
    · next q =>
      cases h
      rw [Bool.and_eq_true] at q
      exact ⟨ds, .inr rfl, q.1, q.2, rfl⟩
    · cases h
  · cases h
section
variable {X : Cx} {a e : Expr} {f : EF} {pos : Pos} {C : Addr} {W : WX} {R : Dn → Prop}
theorem d_inC {x : Str} {d : Dt} {p : Pos} (c : GlobD X.K X.mg x d) (hu : X.A.units + 65 < cLine) (ha : PE X a (canW X.K f)) (hg : Gl X x := by rfl) (hd : (x == ("__debug__" : Str)) = false := by decide) (hm : behindInMarks .In (.Name x p) = false := by rfl) :
    PE X (.Compare a [.In] [.Name x p] pos) (can X.K (e2 inD f (cst d))) := by
  obtain ⟨v, u, h1, h2, h3⟩ := c
  refine pe_imp (pe_cmpR (op_inU hu) ha (pe_glob hg h1 h2 hd) hm) fun σ H Q ⟨G, ρ, r, Ev, hf, k⟩ => ?_
  obtain ⟨d0, hd0, hf⟩ := Option.bind_eq_some_iff.mp (show (f ρ).bind (fun y => (some d).bind fun z => inD y z) = some r from hf)
  replace hf : inD d0 d = some r := hf
  refine ⟨G, ρ, d0, Ev, hd0, fun w G1 H1 s1 r1 => ?_⟩
  obtain ⟨ds, hd1, hs1, hs2, rfl⟩ := inD_some hf
  rcases hd1 with e1 | e1
  · exact ⟨d0, ds, r1.dp s1.gh, .inl (by rw [← e1]; exact h3 H1), hs1, hs2, k _ G1 H1 s1 (.bl _)⟩
  · exact ⟨d0, ds, r1.dp s1.gh, .inr (by rw [← e1]; exact h3 H1), hs1, hs2, k _ G1 H1 s1 (.bl _)⟩
/-- x = (what raises), in a try -/
theorem rs_setX {i : Nat} {x : Str} {p1 : Pos} (hN : X.N.Nodup) (hi : X.N[i]? = some x) (hx : Loc X.env.scope x) (he : PE X e (canE X.K C W R)) (hs : swapsWith e (some (.Name x p1)) pos.line X.env = pure false := by rfl)
    (hf : X.fn x = true ∨ X.env.scope.names.lookup x = some .local := by first | exact .inl rfl | exact .inr rfl | assumption) : PSs X [.Assign [.Name x p1] e pos] (fun _ σ H => canE X.K C W R σ H fun _ _ => False) :=
  pss_imp (pss_one (ps_set hN hi hx he hs hf)) fun D σ H h => h
end
theorem relC_str {K : PySem.W.Frag} {x : Str} {t : Tok} : ∃ v, RelV v (.str x t) ∧ ∀ G, Rp K G v (.str x) := ⟨.str x, ⟨t, rfl⟩, fun _ => .str _⟩
theorem relC_int {K : PySem.W.Frag} {i : Int} {t : Tok} : ∃ v, RelV v (.int i t) ∧ ∀ G, Rp K G v (.int i) := ⟨.int i, ⟨t, rfl⟩, fun _ => .int _⟩
end Cc

-- part Pn
set_option maxHeartbeats 4000000
namespace Pf
open PySem Cc
def C_FIGURES : Dt := (.str (PySem.Str.ofString "0123456789"))
def E_number_of_1 : EF :=
  (e2 inSD (getV 1) (cst Pf.C_FIGURES))
def B_number_of : SF :=
  (sSeq (sIf (tOrr (tNt (tB' (vChn leD leD (cst (.int 1)) (callF lenD (aCons (getV 0) aNil)) (cst (.int 2))))) (tNt (tB' (callF allD (aCons (lstF (lcF (iStrD (getV 0)) [1] (gSet 1) tYesD Pf.E_number_of_1)) aNil)))))
    sNever sNil)
    (sRet (callF intSD (aCons (getV 0) aNil))))
def F_number_of : List Dt → Option Dt := runD ["word", "sign"] ["word"] B_number_of
def B_point_of : SF :=
  (sSeq (sIf (tB' (e2 eqD (getV 0) (cst (.str (PySem.Str.ofString "far")))))
    (sRet (mkTup aNil)) sNil)
    (sSeq (sSet 1 (e2 splitD (getV 0) (cst (.str (PySem.Str.ofString ",")))))
    (sSeq (sIf (tB' (e2 neD (callF lenD (aCons (getV 1) aNil)) (cst (.int 2))))
    sNever sNil)
    (sRet (mkTup (aCons (callF Pf.F_number_of (aCons (e2 ixD (getV 1) (cst (.int 0))) aNil)) (aCons (callF Pf.F_number_of (aCons (e2 ixD (getV 1) (cst (.int 1))) aNil)) aNil)))))))
def F_point_of : List Dt → Option Dt := runD ["word", "parts"] ["word"] B_point_of
def E_read_1 : EF :=
  (callF Pf.F_is_point (aCons (getV 6) (aCons (getV 3) (aCons (getV 2) aNil))))
def E_read_2 : EF :=
  (callF Pf.F_point_of (aCons (getV 5) aNil))
def B_read : SF :=
  (sSeq (sIf (tNt (tB' (e1 isStr (getV 0))))
    sNever sNil)
    (sSeq (sSet 1 (e2 splitD (getV 0) (cst (.str (PySem.Str.ofString " ")))))
    (sSeq (sIf (tNt (tB' (vChn leD leD (cst (.int 3)) (callF lenD (aCons (getV 1) aNil)) (e2 addD (cst (.int 3)) (cst Pf.C_MOST)))))
    sNever sNil)
    (sSeq (sSet 2 (callF Pf.F_number_of (aCons (e2 ixD (getV 1) (cst (.int 0))) aNil)))
    (sSeq (sSet 3 (mkTup (aCons (callF Pf.F_number_of (aCons (e2 ixD (getV 1) (cst (.int 1))) aNil)) (aCons (callF Pf.F_number_of (aCons (e2 ixD (getV 1) (cst (.int 2))) aNil)) aNil))))
    (sSeq (sSet 4 (callF tupleD (aCons (lstF (lcF (iSeq (slcF (getV 1) (oSo (cst (.int 3))) oNo)) [5] (gSet 5) tYesD Pf.E_read_2)) aNil)))
    (sSeq (sIf (tOrr (tNt (tB' (callF Pf.F_is_clock (aCons (getV 2) aNil)))) (tOrr (tNt (tB' (callF Pf.F_is_curve (aCons (getV 3) (aCons (getV 2) aNil))))) (tNt (tB' (callF allD (aCons (lstF (lcF (iSeq (getV 4)) [6] (gSet 6) tYesD Pf.E_read_1)) aNil))))))
    sNever sNil)
    (sSeq (sIf (tB' (e2 neD (callF Pf.F_written (aCons (getV 2) (aCons (getV 3) (aCons (getV 4) aNil)))) (getV 0)))
    sNever sNil)
    (sRet (mkTup (aCons (getV 2) (aCons (getV 3) (aCons (getV 4) aNil)))))))))))))
def F_read : List Dt → Option Dt := runD ["text", "words", "size", "curve", "some", "word", "point"] ["text"] B_read
def Z_number_of : List Dt → Prop := fun ds => ds.length = 1 ∧ (fun ρ => (tOrr (tNt (tB' (vChn leD leD (cst (.int 1)) (callF lenD (aCons (getV 0) aNil)) (cst (.int 2))))) (tNt (tB' (callF allD (aCons (lstF (lcF (iStrD (getV 0)) [1] (gSet 1) tYesD (e2 inSD (getV 1) (cst Pf.C_FIGURES)))) aNil))))) ρ = some true ∧ True) (startD ["word", "sign"] ds)
def Z_point_of : List Dt → Prop := fun ds => ds.length = 1 ∧ (fun ρ => ∃ ρ', (sIf (tB' (e2 eqD (getV 0) (cst (.str (PySem.Str.ofString "far")))))
    (sRet (mkTup aNil)) sNil) ρ = some (.nx ρ') ∧ (fun ρ => ∃ ρ', (sSet 1 (e2 splitD (getV 0) (cst (.str (PySem.Str.ofString ","))))) ρ = some (.nx ρ') ∧ (fun ρ => (fun ρ => (tB' (e2 neD (callF lenD (aCons (getV 1) aNil)) (cst (.int 2)))) ρ = some true ∧ True) ρ ∨ (fun ρ => ∃ ρ', (sIf (tB' (e2 neD (callF lenD (aCons (getV 1) aNil)) (cst (.int 2))))
    sNever sNil) ρ = some (.nx ρ') ∧ (fun ρ => (fun ρ => ∃ ds, (aCons (e2 ixD (getV 1) (cst (.int 0))) aNil) ρ = some ds ∧ Pf.Z_number_of ds) ρ ∨ (fun ρ => (∃ d, (callF Pf.F_number_of (aCons (e2 ixD (getV 1) (cst (.int 0))) aNil)) ρ = some d) ∧ (fun ρ => ∃ ds, (aCons (e2 ixD (getV 1) (cst (.int 1))) aNil) ρ = some ds ∧ Pf.Z_number_of ds) ρ) ρ) ρ') ρ) ρ') ρ') (startD ["word", "parts"] ds)
def Z_read : List Dt → Prop := fun ds => ds.length = 1 ∧ (fun ρ => (fun ρ => (tNt (tB' (e1 isStr (getV 0)))) ρ = some true ∧ True) ρ ∨ (fun ρ => ∃ ρ', (sIf (tNt (tB' (e1 isStr (getV 0))))
    sNever sNil) ρ = some (.nx ρ') ∧ (fun ρ => ∃ ρ', (sSet 1 (e2 splitD (getV 0) (cst (.str (PySem.Str.ofString " "))))) ρ = some (.nx ρ') ∧ (fun ρ => (fun ρ => (tNt (tB' (vChn leD leD (cst (.int 3)) (callF lenD (aCons (getV 1) aNil)) (e2 addD (cst (.int 3)) (cst Pf.C_MOST))))) ρ = some true ∧ True) ρ ∨ (fun ρ => ∃ ρ', (sIf (tNt (tB' (vChn leD leD (cst (.int 3)) (callF lenD (aCons (getV 1) aNil)) (e2 addD (cst (.int 3)) (cst Pf.C_MOST)))))
    sNever sNil) ρ = some (.nx ρ') ∧ (fun ρ => (fun ρ => ∃ ds, (aCons (e2 ixD (getV 1) (cst (.int 0))) aNil) ρ = some ds ∧ Pf.Z_number_of ds) ρ ∨ (fun ρ => ∃ ρ', (sSet 2 (callF Pf.F_number_of (aCons (e2 ixD (getV 1) (cst (.int 0))) aNil))) ρ = some (.nx ρ') ∧ (fun ρ => (fun ρ => (fun ρ => ∃ ds, (aCons (e2 ixD (getV 1) (cst (.int 1))) aNil) ρ = some ds ∧ Pf.Z_number_of ds) ρ ∨ (fun ρ => (∃ d, (callF Pf.F_number_of (aCons (e2 ixD (getV 1) (cst (.int 1))) aNil)) ρ = some d) ∧ (fun ρ => ∃ ds, (aCons (e2 ixD (getV 1) (cst (.int 2))) aNil) ρ = some ds ∧ Pf.Z_number_of ds) ρ) ρ) ρ ∨ (fun ρ => ∃ ρ', (sSet 3 (mkTup (aCons (callF Pf.F_number_of (aCons (e2 ixD (getV 1) (cst (.int 1))) aNil)) (aCons (callF Pf.F_number_of (aCons (e2 ixD (getV 1) (cst (.int 2))) aNil)) aNil)))) ρ = some (.nx ρ') ∧ (fun ρ => (fun ρ => ∃ pre x post acc ρ1, (iSeq (slcF (getV 1) (oSo (cst (.int 3))) oNo)) ρ = some (pre ++ x :: post) ∧ pre.length ≤ 100000 ∧ lcL (gSet 5) tYesD (callF Pf.F_point_of (aCons (getV 5) aNil)) (wipeD ρ [5]) pre = some acc ∧ (gSet 5) x (wipeD ρ [5]) = some ρ1 ∧ (fun ρ => ∃ ds, (aCons (getV 5) aNil) ρ = some ds ∧ Pf.Z_point_of ds) ρ1) ρ ∨ (fun ρ => ∃ ρ', (sSet 4 (callF tupleD (aCons (lstF (lcF (iSeq (slcF (getV 1) (oSo (cst (.int 3))) oNo)) [5] (gSet 5) tYesD (callF Pf.F_point_of (aCons (getV 5) aNil)))) aNil))) ρ = some (.nx ρ') ∧ (fun ρ => (fun ρ => (tOrr (tNt (tB' (callF Pf.F_is_clock (aCons (getV 2) aNil)))) (tOrr (tNt (tB' (callF Pf.F_is_curve (aCons (getV 3) (aCons (getV 2) aNil))))) (tNt (tB' (callF allD (aCons (lstF (lcF (iSeq (getV 4)) [6] (gSet 6) tYesD (callF Pf.F_is_point (aCons (getV 6) (aCons (getV 3) (aCons (getV 2) aNil)))))) aNil)))))) ρ = some true ∧ True) ρ ∨ (fun ρ => ∃ ρ', (sIf (tOrr (tNt (tB' (callF Pf.F_is_clock (aCons (getV 2) aNil)))) (tOrr (tNt (tB' (callF Pf.F_is_curve (aCons (getV 3) (aCons (getV 2) aNil))))) (tNt (tB' (callF allD (aCons (lstF (lcF (iSeq (getV 4)) [6] (gSet 6) tYesD (callF Pf.F_is_point (aCons (getV 6) (aCons (getV 3) (aCons (getV 2) aNil)))))) aNil))))))
    sNever sNil) ρ = some (.nx ρ') ∧ (fun ρ => (tB' (e2 neD (callF Pf.F_written (aCons (getV 2) (aCons (getV 3) (aCons (getV 4) aNil)))) (getV 0))) ρ = some true ∧ True) ρ') ρ) ρ') ρ) ρ') ρ) ρ') ρ) ρ') ρ) ρ') ρ') ρ) (startD ["text", "words", "size", "curve", "some", "word", "point"] ds)
noncomputable def B_law_told : SF :=
  (sSeq (sTryB 1 3 (fun ρ => ∃ ds, (aCons (getV 0) aNil) ρ = some ds ∧ Pf.Z_read ds) (sSet 2 (callF Pf.F_read (aCons (getV 0) aNil))) (sRet (e2 ixD (mkLst (aCons (cst (.int 0)) (aCons (cst .none) aNil))) (callF intD (aCons (getV 3) aNil)))))
    (sRet (e2 ixD (mkLst (aCons (getV 2) (aCons (cst (.int 0)) aNil))) (callF intD (aCons (e2 isND (getV 2) (cst .none)) aNil)))))
noncomputable def F_law_told : List Dt → Option Dt := runD ["text", "e", "found", "good"] ["text"] B_law_told
def B_law_changed : SF :=
  (sSeq (sSet 2 (e2 modD (e2 fdivD (getV 1) (cst (.int 16))) (e2 addD (callF lenD (aCons (getV 0) aNil)) (cst (.int 1)))))
    (sSeq (sSet 3 (e2 ixD (cst (.str (PySem.Str.ofString " 0123456789,-far~"))) (e2 modD (e2 fdivD (getV 1) (cst (.int 400))) (cst (.int 17)))))
    (sSeq (sIf (tB' (e2 eqD (e2 modD (getV 1) (cst (.int 8))) (cst (.int 0))))
    (sRet (e2 addD (e2 addD (slcF (getV 0) oNo (oSo (getV 2))) (getV 3)) (slcF (getV 0) (oSo (getV 2)) oNo))) sNil)
    (sSeq (sIf (tB' (e2 eqD (e2 modD (getV 1) (cst (.int 8))) (cst (.int 3))))
    (sRet (e2 addD (slcF (getV 0) oNo (oSo (getV 2))) (slcF (getV 0) (oSo (e2 addD (getV 2) (cst (.int 1)))) oNo))) sNil)
    (sSeq (sIf (tB' (e2 ltD (e2 modD (getV 1) (cst (.int 8))) (cst (.int 3))))
    (sRet (e2 addD (e2 addD (slcF (getV 0) oNo (oSo (getV 2))) (getV 3)) (slcF (getV 0) (oSo (e2 addD (getV 2) (cst (.int 1)))) oNo))) sNil)
    (sSeq (sSetO 4 (splitL (getV 0) (cst (.str (PySem.Str.ofString " ")))))
    (sSeq (sSet 2 (e2 modD (e2 fdivD (getV 1) (cst (.int 16))) (callF lenD (aCons (getW 4) aNil))))
    (sSeq (sIf (tB' (e2 eqD (e2 modD (getV 1) (cst (.int 8))) (cst (.int 4))))
    (sSetO 4 (sumLD (slcF (getW 4) oNo (oSo (getV 2))) (slcF (getW 4) (oSo (e2 addD (getV 2) (cst (.int 1)))) oNo))) sNil)
    (sSeq (sIf (tB' (e2 eqD (e2 modD (getV 1) (cst (.int 8))) (cst (.int 5))))
    (sSetO 4 (sumLD (e2 addD (slcF (getW 4) oNo (oSo (getV 2))) (slcF (getW 4) (oSo (getV 2)) (oSo (e2 addD (getV 2) (cst (.int 1)))))) (slcF (getW 4) (oSo (getV 2)) oNo))) sNil)
    (sSeq (sIf (tB' (e2 eqD (e2 modD (getV 1) (cst (.int 8))) (cst (.int 6))))
    (sSetO 4 (sumLD (e2 addD (slcF (getW 4) oNo (oSo (getV 2))) (e1 revD (slcF (getW 4) (oSo (getV 2)) (oSo (e2 addD (getV 2) (cst (.int 2))))))) (slcF (getW 4) (oSo (e2 addD (getV 2) (cst (.int 2)))) oNo))) sNil)
    (sSeq (sIf (tB' (e2 eqD (e2 modD (getV 1) (cst (.int 8))) (cst (.int 7))))
    (sSeq (sSet 5 (mkLst (aCons (cst (.str (PySem.Str.ofString "far"))) (aCons (cst (.str (PySem.Str.ofString "0"))) (aCons (cst (.str (PySem.Str.ofString "1"))) (aCons (cst (.str (PySem.Str.ofString "00"))) (aCons (cst (.str (PySem.Str.ofString "5"))) (aCons (cst (.str (PySem.Str.ofString "7"))) (aCons (cst (.str (PySem.Str.ofString "9"))) (aCons (cst (.str (PySem.Str.ofString "31"))) (aCons (cst (.str (PySem.Str.ofString "37"))) (aCons (cst (.str (PySem.Str.ofString "0,0"))) (aCons (cst (.str (PySem.Str.ofString "1,2"))) (aCons (cst (.str (PySem.Str.ofString "2,1"))) (aCons (cst (.str (PySem.Str.ofString ","))) (aCons (cst (.str (PySem.Str.ofString "3,"))) (aCons (cst (.str (PySem.Str.ofString ""))) aNil)))))))))))))))))
    (sStore 4 (getV 2) (e2 ixD (getV 5) (e2 modD (e2 fdivD (getV 1) (cst (.int 400))) (cst (.int 15)))))) sNil)
    (sRet (e2 joinD (cst (.str (PySem.Str.ofString " "))) (getW 4))))))))))))))
def F_law_changed : List Dt → Option Dt := runD ["text", "number", "at", "letter", "words", "some"] ["text", "number"] B_law_changed
def L_law_k04_1 : SF :=
  (sSet 4 (callF Pf.F_law_changed (aCons (getV 4) (aCons (callF Pf.F_law_drawn (aCons (getV 5) (aCons (getV 7) aNil))) aNil))))
noncomputable def B_law_k04 : SF :=
  (sSeq (sSet 1 (e2 ixD (mkTup (aCons (cst (.int 5)) (aCons (cst (.int 7)) (aCons (cst (.int 11)) (aCons (cst (.int 13)) (aCons (cst (.int 17)) (aCons (cst (.int 19)) (aCons (cst (.int 23)) (aCons (cst (.int 29)) (aCons (cst (.int 31)) aNil)))))))))) (e2 modD (callS 0 Pf.F_law_mixed (aCons (cst (.int 0)) aNil)) (cst (.int 9)))))
    (sSeq (sSet 2 (callF Pf.F_law_curve (aCons (callS 0 Pf.F_law_mixed (aCons (cst (.int 1)) aNil)) (aCons (getV 1) aNil))))
    (sSeq (sSet 3 (callF Pf.F_law_drawn_points (aCons (callS 0 Pf.F_law_mixed (aCons (cst (.int 2)) aNil)) (aCons (callF Pf.F_law_points (aCons (getV 2) (aCons (getV 1) aNil))) aNil))))
    (sSeq (sSet 4 (callF Pf.F_law_text (aCons (getV 1) (aCons (getV 2) (aCons (getV 3) aNil)))))
    (sSeq (sSet 5 (callS 0 Pf.F_law_mixed (aCons (cst (.int 3)) aNil)))
    (sSeq (sSet 6 (callF Pf.F_law_told (aCons (getV 4) aNil)))
    (sSeq (sIf (tB' (e2 eqD (callF lenD (aCons (getV 3) aNil)) (cst (.int 41))))
    (sRet (e2 isND (getV 6) (cst .none))) sNil)
    (sSeq (sIf (tOrr (tB' (e2 neD (getV 6) (mkTup (aCons (getV 1) (aCons (getV 2) (aCons (getV 3) aNil)))))) (tNt (tB' (callF Pf.F_law_is_right (aCons (getV 6) aNil)))))
    (sRet (cst (.bool false))) sNil)
    (sSeq (sFor (iF rng1D (aCons (e2 ixD (mkTup (aCons (cst (.int 0)) (aCons (cst (.int 1)) (aCons (cst (.int 2)) (aCons (cst (.int 4)) (aCons (cst (.int 0)) (aCons (cst (.int 1)) aNil))))))) (e2 modD (getV 5) (cst (.int 6)))) aNil)) (gSet 7)
    Pf.L_law_k04_1)
    (sSeq (sSet 6 (callF Pf.F_law_told (aCons (getV 4) aNil)))
    (sRet (vOr (e2 isND (getV 6) (cst .none)) (vAn (e2 neD (getV 6) (cst (.int 0))) (vAn (callF Pf.F_law_is_right (aCons (getV 6) aNil)) (e2 eqD (callF Pf.F_law_text (aCons (e2 ixD (getV 6) (cst (.int 0))) (aCons (e2 ixD (getV 6) (cst (.int 1))) (aCons (e2 ixD (getV 6) (cst (.int 2))) aNil)))) (getV 4))))))))))))))))
noncomputable def F_law_k04 : List Int → List Dt → Option Dt := runS ["script", "size", "curve", "some", "text", "number", "found", "k"] [] B_law_k04
end Pf

-- part W04
set_option maxHeartbeats 4000000
namespace Wk
open PySem PySem.Spec PyProof.Rows L2 Cc
def topS (i : Nat) : Stmt := PySem.Challenge.pw_clockcurve_k04_whole_read.main.body.getD i (.Pass ⟨0, 0, 0, 0⟩)
abbrev s_law_drawn : Stmt := topS 26
abbrev N_law_drawn : List Str := ["number", "k", "drawn"]
theorem sc_law_drawn : FnScope N_law_drawn ["number", "k"] (defScope s_law_drawn) := ⟨rfl, rfl, rfl, by decide +kernel, rfl, by decide +kernel, by decide +kernel⟩
abbrev s_law_good : Stmt := topS 27
abbrev N_law_good : List Str := ["curve", "size", "a", "b"]
theorem sc_law_good : FnScope N_law_good ["curve", "size"] (defScope s_law_good) := ⟨rfl, rfl, rfl, by decide +kernel, rfl, by decide +kernel, by decide +kernel⟩
abbrev s_law_curve : Stmt := topS 28
abbrev N_law_curve : List Str := ["number", "size", "k", "drawn", "curve", "third", "high"]
theorem sc_law_curve : FnScope N_law_curve ["number", "size"] (defScope s_law_curve) := ⟨rfl, rfl, rfl, by decide +kernel, rfl, by decide +kernel, by decide +kernel⟩
abbrev s_law_drawn_points : Stmt := topS 32
abbrev N_law_drawn_points : List Str := ["number", "some", "many", "k"]
theorem sc_law_drawn_points : FnScope N_law_drawn_points ["number", "some"] (defScope s_law_drawn_points) := ⟨rfl, rfl, rfl, by decide +kernel, rfl, by decide +kernel, by decide +kernel⟩
abbrev s_law_point_text : Stmt := topS 30
abbrev N_law_point_text : List Str := ["point"]
theorem sc_law_point_text : FnScope N_law_point_text ["point"] (defScope s_law_point_text) := ⟨rfl, rfl, rfl, by decide +kernel, rfl, by decide +kernel, by decide +kernel⟩
abbrev s_law_text : Stmt := topS 31
abbrev N_law_text : List Str := ["size", "curve", "some", "point"]
theorem sc_law_text : FnScope N_law_text ["size", "curve", "some"] (defScope s_law_text) := ⟨rfl, rfl, rfl, by decide +kernel, rfl, by decide +kernel, by decide +kernel⟩
abbrev s_law_cell_at : Stmt := topS 24
abbrev N_law_cell_at : List Str := ["script", "k"]
theorem sc_law_cell_at : FnScope N_law_cell_at ["script", "k"] (defScope s_law_cell_at) := ⟨rfl, rfl, rfl, by decide +kernel, rfl, by decide +kernel, by decide +kernel⟩
abbrev s_law_mixed : Stmt := topS 25
abbrev N_law_mixed : List Str := ["script", "k", "drawn"]
theorem sc_law_mixed : FnScope N_law_mixed ["script", "k"] (defScope s_law_mixed) := ⟨rfl, rfl, rfl, by decide +kernel, rfl, by decide +kernel, by decide +kernel⟩
abbrev s_number_of : Stmt := topS 20
abbrev N_number_of : List Str := ["word", "sign"]
theorem sc_number_of : FnScope N_number_of ["word"] (defScope s_number_of) := ⟨rfl, rfl, rfl, by decide +kernel, rfl, by decide +kernel, by decide +kernel⟩
abbrev s_point_text : Stmt := topS 15
abbrev N_point_text : List Str := ["point"]
theorem sc_point_text : FnScope N_point_text ["point"] (defScope s_point_text) := ⟨rfl, rfl, rfl, by decide +kernel, rfl, by decide +kernel, by decide +kernel⟩
abbrev s_written : Stmt := topS 16
abbrev N_written : List Str := ["size", "curve", "some", "point"]
theorem sc_written : FnScope N_written ["size", "curve", "some"] (defScope s_written) := ⟨rfl, rfl, rfl, by decide +kernel, rfl, by decide +kernel, by decide +kernel⟩
abbrev s_point_of : Stmt := topS 21
abbrev N_point_of : List Str := ["word", "parts"]
theorem sc_point_of : FnScope N_point_of ["word"] (defScope s_point_of) := ⟨rfl, rfl, rfl, by decide +kernel, rfl, by decide +kernel, by decide +kernel⟩
abbrev s_is_whole : Stmt := topS 7
abbrev N_is_whole : List Str := ["thing"]
theorem sc_is_whole : FnScope N_is_whole ["thing"] (defScope s_is_whole) := ⟨rfl, rfl, rfl, by decide +kernel, rfl, by decide +kernel, by decide +kernel⟩
abbrev s_is_clock : Stmt := topS 8
abbrev N_is_clock : List Str := ["thing"]
theorem sc_is_clock : FnScope N_is_clock ["thing"] (defScope s_is_clock) := ⟨rfl, rfl, rfl, by decide +kernel, rfl, by decide +kernel, by decide +kernel⟩
abbrev s_is_number : Stmt := topS 9
abbrev N_is_number : List Str := ["thing", "size"]
theorem sc_is_number : FnScope N_is_number ["thing", "size"] (defScope s_is_number) := ⟨rfl, rfl, rfl, by decide +kernel, rfl, by decide +kernel, by decide +kernel⟩
abbrev s_is_curve : Stmt := topS 11
abbrev N_is_curve : List Str := ["thing", "size", "part"]
theorem sc_is_curve : FnScope N_is_curve ["thing", "size"] (defScope s_is_curve) := ⟨rfl, rfl, rfl, by decide +kernel, rfl, by decide +kernel, by decide +kernel⟩
abbrev s_height : Stmt := topS 12
abbrev N_height : List Str := ["curve", "size", "x"]
theorem sc_height : FnScope N_height ["curve", "size", "x"] (defScope s_height) := ⟨rfl, rfl, rfl, by decide +kernel, rfl, by decide +kernel, by decide +kernel⟩
abbrev s_is_point : Stmt := topS 13
abbrev N_is_point : List Str := ["thing", "curve", "size", "part"]
theorem sc_is_point : FnScope N_is_point ["thing", "curve", "size"] (defScope s_is_point) := ⟨rfl, rfl, rfl, by decide +kernel, rfl, by decide +kernel, by decide +kernel⟩
abbrev s_read : Stmt := topS 22
abbrev N_read : List Str := ["text", "words", "size", "curve", "some", "word", "point"]
theorem sc_read : FnScope N_read ["text"] (defScope s_read) := ⟨rfl, rfl, rfl, by decide +kernel, rfl, by decide +kernel, by decide +kernel⟩
abbrev s_law_told : Stmt := topS 35
abbrev N_law_told : List Str := ["text", "e", "found", "good"]
theorem sc_law_told : FnScope N_law_told ["text"] (defScope s_law_told) := ⟨rfl, rfl, rfl, by decide +kernel, rfl, by decide +kernel, by decide +kernel⟩
abbrev s_law_points : Stmt := topS 29
abbrev N_law_points : List Str := ["curve", "size", "found", "x", "a", "b", "y"]
theorem sc_law_points : FnScope N_law_points ["curve", "size"] (defScope s_law_points) := ⟨rfl, rfl, rfl, by decide +kernel, rfl, by decide +kernel, by decide +kernel⟩
abbrev s_law_changed : Stmt := topS 34
abbrev N_law_changed : List Str := ["text", "number", "at", "letter", "words", "some"]
theorem sc_law_changed : FnScope N_law_changed ["text", "number"] (defScope s_law_changed) := ⟨rfl, rfl, rfl, by decide +kernel, rfl, by decide +kernel, by decide +kernel⟩
abbrev s_law_is_right : Stmt := topS 33
abbrev N_law_is_right : List Str := ["thing", "part", "every", "point", "size", "curve", "some"]
theorem sc_law_is_right : FnScope N_law_is_right ["thing"] (defScope s_law_is_right) := ⟨rfl, rfl, rfl, by decide +kernel, rfl, by decide +kernel, by decide +kernel⟩
abbrev s_law : Stmt := topS 36
abbrev N_law : List Str := ["script", "size", "curve", "some", "text", "number", "found", "k"]
theorem sc_law : FnScope N_law ["script"] (defScope s_law) := ⟨rfl, rfl, rfl, by decide +kernel, rfl, by decide +kernel, by decide +kernel⟩
structure Txt (K : PySem.W.Frag) (mg : Str → Option Value) where
  f_law_drawn : Addr
  d_law_drawn : FuncData
  F_law_drawn : Fun K "_law_drawn" "_law_drawn" s_law_drawn f_law_drawn d_law_drawn
  g_law_drawn : mg "_law_drawn" = some (.ref f_law_drawn)
  f_law_good : Addr
  d_law_good : FuncData
  F_law_good : Fun K "_law_good" "_law_good" s_law_good f_law_good d_law_good
  g_law_good : mg "_law_good" = some (.ref f_law_good)
  f_law_curve : Addr
  d_law_curve : FuncData
  F_law_curve : Fun K "_law_curve" "_law_curve" s_law_curve f_law_curve d_law_curve
  g_law_curve : mg "_law_curve" = some (.ref f_law_curve)
  f_law_drawn_points : Addr
  d_law_drawn_points : FuncData
  F_law_drawn_points : Fun K "_law_drawn_points" "_law_drawn_points" s_law_drawn_points f_law_drawn_points d_law_drawn_points
  g_law_drawn_points : mg "_law_drawn_points" = some (.ref f_law_drawn_points)
  f_law_point_text : Addr
  d_law_point_text : FuncData
  F_law_point_text : Fun K "_law_point_text" "_law_point_text" s_law_point_text f_law_point_text d_law_point_text
  g_law_point_text : mg "_law_point_text" = some (.ref f_law_point_text)
  f_law_text : Addr
  d_law_text : FuncData
  F_law_text : Fun K "_law_text" "_law_text" s_law_text f_law_text d_law_text
  g_law_text : mg "_law_text" = some (.ref f_law_text)
  f_law_cell_at : Addr
  d_law_cell_at : FuncData
  F_law_cell_at : Fun K "_law_cell_at" "_law_cell_at" s_law_cell_at f_law_cell_at d_law_cell_at
  g_law_cell_at : mg "_law_cell_at" = some (.ref f_law_cell_at)
  f_law_mixed : Addr
  d_law_mixed : FuncData
  F_law_mixed : Fun K "_law_mixed" "_law_mixed" s_law_mixed f_law_mixed d_law_mixed
  g_law_mixed : mg "_law_mixed" = some (.ref f_law_mixed)
  f_number_of : Addr
  d_number_of : FuncData
  F_number_of : Fun K "number_of" "number_of" s_number_of f_number_of d_number_of
  g_number_of : mg "number_of" = some (.ref f_number_of)
  f_point_text : Addr
  d_point_text : FuncData
  F_point_text : Fun K "point_text" "point_text" s_point_text f_point_text d_point_text
  g_point_text : mg "point_text" = some (.ref f_point_text)
  f_written : Addr
  d_written : FuncData
  F_written : Fun K "written" "written" s_written f_written d_written
  g_written : mg "written" = some (.ref f_written)
  f_point_of : Addr
  d_point_of : FuncData
  F_point_of : Fun K "point_of" "point_of" s_point_of f_point_of d_point_of
  g_point_of : mg "point_of" = some (.ref f_point_of)
  f_is_whole : Addr
  d_is_whole : FuncData
  F_is_whole : Fun K "is_whole" "is_whole" s_is_whole f_is_whole d_is_whole
  g_is_whole : mg "is_whole" = some (.ref f_is_whole)
  f_is_clock : Addr
  d_is_clock : FuncData
  F_is_clock : Fun K "is_clock" "is_clock" s_is_clock f_is_clock d_is_clock
  g_is_clock : mg "is_clock" = some (.ref f_is_clock)
  f_is_number : Addr
  d_is_number : FuncData
  F_is_number : Fun K "is_number" "is_number" s_is_number f_is_number d_is_number
  g_is_number : mg "is_number" = some (.ref f_is_number)
  f_is_curve : Addr
  d_is_curve : FuncData
  F_is_curve : Fun K "is_curve" "is_curve" s_is_curve f_is_curve d_is_curve
  g_is_curve : mg "is_curve" = some (.ref f_is_curve)
  f_height : Addr
  d_height : FuncData
  F_height : Fun K "height" "height" s_height f_height d_height
  g_height : mg "height" = some (.ref f_height)
  f_is_point : Addr
  d_is_point : FuncData
  F_is_point : Fun K "is_point" "is_point" s_is_point f_is_point d_is_point
  g_is_point : mg "is_point" = some (.ref f_is_point)
  f_read : Addr
  d_read : FuncData
  F_read : Fun K "read" "read" s_read f_read d_read
  g_read : mg "read" = some (.ref f_read)
  f_law_told : Addr
  d_law_told : FuncData
  F_law_told : Fun K "_law_told" "_law_told" s_law_told f_law_told d_law_told
  g_law_told : mg "_law_told" = some (.ref f_law_told)
  f_law_points : Addr
  d_law_points : FuncData
  F_law_points : Fun K "_law_points" "_law_points" s_law_points f_law_points d_law_points
  g_law_points : mg "_law_points" = some (.ref f_law_points)
  f_law_changed : Addr
  d_law_changed : FuncData
  F_law_changed : Fun K "_law_changed" "_law_changed" s_law_changed f_law_changed d_law_changed
  g_law_changed : mg "_law_changed" = some (.ref f_law_changed)
  f_law_is_right : Addr
  d_law_is_right : FuncData
  F_law_is_right : Fun K "_law_is_right" "_law_is_right" s_law_is_right f_law_is_right d_law_is_right
  g_law_is_right : mg "_law_is_right" = some (.ref f_law_is_right)
  f_law : Addr
  d_law : FuncData
  F_law : Fun K "law" "law" s_law f_law d_law
  n_ValueError : mg "ValueError" = none
  n_all : mg "all" = none
  n_bool : mg "bool" = none
  n_int : mg "int" = none
  n_isinstance : mg "isinstance" = none
  n_len : mg "len" = none
  n_max : mg "max" = none
  n_range : mg "range" = none
  n_str : mg "str" = none
  n_tuple : mg "tuple" = none
  c_FIGURES : GlobC K mg "FIGURES" Pf.C_FIGURES
  c_MOST : GlobC K mg "MOST" Pf.C_MOST
  c_PRIMES : GlobD K mg "PRIMES" Pf.C_PRIMES
  a_NoText : Addr
  x_NoText : ExR K mg "NoText" a_NoText
  e_NoText : ExcC K a_NoText
  m_NoText : PySem.W.exmOne K (.ref a_NoText) (.ref a_NoText) = some true
  a_CurveError : Addr
  g_CurveError : mg "CurveError" = some (.ref a_CurveError)
  a_NoNumber : Addr
  g_NoNumber : mg "NoNumber" = some (.ref a_NoNumber)
  a_NoPoint : Addr
  g_NoPoint : mg "NoPoint" = some (.ref a_NoPoint)
  k_NoText_CurveError : PySem.W.kitOne K (.ref a_NoText) (.ref a_CurveError) = some true
  k_NoText_ValueError : PySem.W.kitOne K (.ref a_NoText) (.type "ValueError") = some true
  k2_NoText_NoNumber_NoPoint : PySem.W.kitAny K (.ref a_NoText) [.ref a_NoNumber, .ref a_NoPoint] = some false
section
variable {P : Program} {w : World} {K : PySem.W.Frag} {mg : Str → Option Value} {base : Heap}
theorem b_law_drawn (T : Txt K mg) : Binds K T.d_law_drawn ["number", "k"] [] := T.F_law_drawn.binds fun _ _ _ _ _ _ us hl => match us, hl with | [_, _], _ => rfl
theorem b_law_good (T : Txt K mg) : Binds K T.d_law_good ["curve", "size"] [] := T.F_law_good.binds fun _ _ _ _ _ _ us hl => match us, hl with | [_, _], _ => rfl
theorem b_law_curve (T : Txt K mg) : Binds K T.d_law_curve ["number", "size"] [] := T.F_law_curve.binds fun _ _ _ _ _ _ us hl => match us, hl with | [_, _], _ => rfl
theorem b_law_drawn_points (T : Txt K mg) : Binds K T.d_law_drawn_points ["number", "some"] [] := T.F_law_drawn_points.binds fun _ _ _ _ _ _ us hl => match us, hl with | [_, _], _ => rfl
theorem b_law_point_text (T : Txt K mg) : Binds K T.d_law_point_text ["point"] [] := T.F_law_point_text.binds fun _ _ _ _ _ _ us hl => match us, hl with | [_], _ => rfl
theorem b_law_text (T : Txt K mg) : Binds K T.d_law_text ["size", "curve", "some"] [] := T.F_law_text.binds fun _ _ _ _ _ _ us hl => match us, hl with | [_, _, _], _ => rfl
theorem b_law_cell_at (T : Txt K mg) : Binds K T.d_law_cell_at ["script", "k"] [] := T.F_law_cell_at.binds fun _ _ _ _ _ _ us hl => match us, hl with | [_, _], _ => rfl
theorem b_law_mixed (T : Txt K mg) : Binds K T.d_law_mixed ["script", "k"] [] := T.F_law_mixed.binds fun _ _ _ _ _ _ us hl => match us, hl with | [_, _], _ => rfl
theorem b_number_of (T : Txt K mg) : Binds K T.d_number_of ["word"] [] := T.F_number_of.binds fun _ _ _ _ _ _ us hl => match us, hl with | [_], _ => rfl
theorem b_point_text (T : Txt K mg) : Binds K T.d_point_text ["point"] [] := T.F_point_text.binds fun _ _ _ _ _ _ us hl => match us, hl with | [_], _ => rfl
theorem b_written (T : Txt K mg) : Binds K T.d_written ["size", "curve", "some"] [] := T.F_written.binds fun _ _ _ _ _ _ us hl => match us, hl with | [_, _, _], _ => rfl
theorem b_point_of (T : Txt K mg) : Binds K T.d_point_of ["word"] [] := T.F_point_of.binds fun _ _ _ _ _ _ us hl => match us, hl with | [_], _ => rfl
theorem b_is_whole (T : Txt K mg) : Binds K T.d_is_whole ["thing"] [] := T.F_is_whole.binds fun _ _ _ _ _ _ us hl => match us, hl with | [_], _ => rfl
theorem b_is_clock (T : Txt K mg) : Binds K T.d_is_clock ["thing"] [] := T.F_is_clock.binds fun _ _ _ _ _ _ us hl => match us, hl with | [_], _ => rfl
theorem b_is_number (T : Txt K mg) : Binds K T.d_is_number ["thing", "size"] [] := T.F_is_number.binds fun _ _ _ _ _ _ us hl => match us, hl with | [_, _], _ => rfl
theorem b_is_curve (T : Txt K mg) : Binds K T.d_is_curve ["thing", "size"] [] := T.F_is_curve.binds fun _ _ _ _ _ _ us hl => match us, hl with | [_, _], _ => rfl
theorem b_height (T : Txt K mg) : Binds K T.d_height ["curve", "size", "x"] [] := T.F_height.binds fun _ _ _ _ _ _ us hl => match us, hl with | [_, _, _], _ => rfl
theorem b_is_point (T : Txt K mg) : Binds K T.d_is_point ["thing", "curve", "size"] [] := T.F_is_point.binds fun _ _ _ _ _ _ us hl => match us, hl with | [_, _, _], _ => rfl
theorem b_read (T : Txt K mg) : Binds K T.d_read ["text"] [] := T.F_read.binds fun _ _ _ _ _ _ us hl => match us, hl with | [_], _ => rfl
theorem b_law_told (T : Txt K mg) : Binds K T.d_law_told ["text"] [] := T.F_law_told.binds fun _ _ _ _ _ _ us hl => match us, hl with | [_], _ => rfl
theorem b_law_points (T : Txt K mg) : Binds K T.d_law_points ["curve", "size"] [] := T.F_law_points.binds fun _ _ _ _ _ _ us hl => match us, hl with | [_, _], _ => rfl
theorem b_law_changed (T : Txt K mg) : Binds K T.d_law_changed ["text", "number"] [] := T.F_law_changed.binds fun _ _ _ _ _ _ us hl => match us, hl with | [_, _], _ => rfl
theorem b_law_is_right (T : Txt K mg) : Binds K T.d_law_is_right ["thing"] [] := T.F_law_is_right.binds fun _ _ _ _ _ _ us hl => match us, hl with | [_], _ => rfl
theorem b_law (T : Txt K mg) : Binds K T.d_law ["script"] [] := T.F_law.binds fun _ _ _ _ _ _ us hl => match us, hl with | [_], _ => rfl
theorem ok_law_drawn (T : Txt K mg) : FnOk P w K mg base CX0 1 T.f_law_drawn T.d_law_drawn ["number", "k"] (spD K Pf.F_law_drawn) :=
  fn_data T.F_law_drawn sc_law_drawn fun cdv A outer s H E hr => have nd := sc_law_drawn.nd
    (ds_cons (ds_set (i := 2) nd rfl (by first | exact Or.inl rfl | exact Or.inr rfl) (d_bin op_mod op2_mod (wk (d_bin op_mulAll op2_mul (wk (d_bin op_addAll op2_add (wk (d_bin op_addAll op2_add (wk (dv 0)) (wk (d_bin op_mulAll op2_mul (wk dc_int) (wk (dv 1)))))) (wk dc_int))) (wk dc_int))) (wk dc_int)))
    (ds_one (ds_ret (d_bin op_mod op2_mod (wk (d_bin op_addAll op2_add (wk (d_bin op_addAll op2_add (wk (d_bin op_mulAll op2_mul (wk (dv 2)) (wk (dv 2)))) (wk (d_bin op_mulAll op2_mul (wk dc_int) (wk (dv 2)))))) (wk (dv 1)))) (wk dc_int)))))
theorem ok_law_good (T : Txt K mg) : FnOk P w K mg base CX0 1 T.f_law_good T.d_law_good ["curve", "size"] (spD K Pf.F_law_good) :=
  fn_data T.F_law_good sc_law_good fun cdv A outer s H E hr => have nd := sc_law_good.nd
    (ds_cons (ds_asg (dv 0) (dg_tup rfl (dgs_cons (dg_name (i := 2) nd rfl (by first | exact Or.inl rfl | exact Or.inr rfl)) (dgs_cons (dg_name (i := 3) nd rfl (by first | exact Or.inl rfl | exact Or.inr rfl)) dgs_nil))))
    (ds_one (ds_ret (d_cmp (op_neD hr.units) op2_ne (nomark _) (wk (d_bin op_mod op2_mod (wk (d_bin op_addAll op2_add (wk (d_bin op_mulAll op2_mul (wk (d_bin op_mulAll op2_mul (wk (d_bin op_mulAll op2_mul (wk dc_int) (wk (dv 2)))) (wk (dv 2)))) (wk (dv 2)))) (wk (d_bin op_mulAll op2_mul (wk (d_bin op_mulAll op2_mul (wk dc_int) (wk (dv 3)))) (wk (dv 3)))))) (wk (dv 1)))) (wk dc_int)))))
theorem ok_law_curve (T : Txt K mg) : FnOk P w K mg base CX0 2 T.f_law_curve T.d_law_curve ["number", "size"] (spD K Pf.F_law_curve) :=
  fn_data T.F_law_curve sc_law_curve fun cdv A outer s H E hr => have nd := sc_law_curve.nd
    (ds_cons (ds_for PassesOwn.never rfl (di_range1 (by rfl) T.n_range (da_cons dc_int da_nil)) (dg_name (i := 2) nd rfl (by first | exact Or.inl rfl | exact Or.inr rfl))
    (ds_cons (ds_set (i := 3) nd rfl (by first | exact Or.inl rfl | exact Or.inr rfl) (d_call (ok_law_drawn T) (hr.mono (by decide)) (by rfl) T.g_law_drawn T.F_law_drawn.kp (b_law_drawn T) pass0 (da_cons (dv 0) (da_cons (dv 2) da_nil))))
    (ds_cons (ds_set (i := 4) nd rfl (by first | exact Or.inl rfl | exact Or.inr rfl) (d_tup (da_cons (d_bin op_mod op2_mod (wk (d_bin op_fdiv op2_fdiv (wk (dv 3)) (wk dc_int))) (wk (dv 1))) (da_cons (d_bin op_mod op2_mod (wk (d_bin op_fdiv op2_fdiv (wk (dv 3)) (wk dc_int))) (wk (dv 1))) da_nil))))
    (ds_cons (ds_if (dt_cmp (op_eqD hr.units) op2_eq (nomark _) (wk (d_bin op_mod op2_mod (wk (dv 0)) (wk dc_int))) (wk dc_int))
    (ds_one (ds_set (i := 4) nd rfl (by first | exact Or.inl rfl | exact Or.inr rfl) (d_tup (da_cons dc_int (da_cons (d_ix ix_seq op2_ix (fun _ _ => rfl) (wk (dv 4)) (wk dc_int)) da_nil))))) ds_nil)
    (ds_cons (ds_if (dt_cmp (op_eqD hr.units) op2_eq (nomark _) (wk (d_bin op_mod op2_mod (wk (dv 0)) (wk dc_int))) (wk dc_int))
    (ds_one (ds_set (i := 4) nd rfl (by first | exact Or.inl rfl | exact Or.inr rfl) (d_tup (da_cons (d_ix ix_seq op2_ix (fun _ _ => rfl) (wk (dv 4)) (wk dc_int)) (da_cons dc_int da_nil))))) ds_nil)
    (ds_cons (ds_if (dt_cmp (op_eqD hr.units) op2_eq (nomark _) (wk (d_bin op_mod op2_mod (wk (dv 0)) (wk dc_int))) (wk dc_int))
    (ds_cons (ds_set (i := 5) nd rfl (by first | exact Or.inl rfl | exact Or.inr rfl) (d_bin op_mod op2_mod (wk (d_bin op_sub op2_sub (wk (d_un un_neg op1_neg (wk (d_ix ix_seq op2_ix (fun _ _ => rfl) (wk (dv 4)) (wk dc_int))))) (wk (d_ix ix_seq op2_ix (fun _ _ => rfl) (wk (dv 4)) (wk dc_int))))) (wk (dv 1))))
    (ds_cons (ds_set (i := 6) nd rfl (by first | exact Or.inl rfl | exact Or.inr rfl) (d_bin op_addAll op2_add (wk (d_bin op_mulAll op2_mul (wk (d_ix ix_seq op2_ix (fun _ _ => rfl) (wk (dv 4)) (wk dc_int))) (wk (d_ix ix_seq op2_ix (fun _ _ => rfl) (wk (dv 4)) (wk dc_int))))) (wk (d_bin op_mulAll op2_mul (wk (dv 5)) (wk (d_bin op_addAll op2_add (wk (d_ix ix_seq op2_ix (fun _ _ => rfl) (wk (dv 4)) (wk dc_int))) (wk (d_ix ix_seq op2_ix (fun _ _ => rfl) (wk (dv 4)) (wk dc_int)))))))))
    (ds_one (ds_set (i := 4) nd rfl (by first | exact Or.inl rfl | exact Or.inr rfl) (d_tup (da_cons (d_bin op_mod op2_mod (wk (dv 6)) (wk (dv 1))) (da_cons (d_bin op_mod op2_mod (wk (d_bin op_mulAll op2_mul (wk (d_bin op_mulAll op2_mul (wk (d_un un_neg op1_neg (wk (d_ix ix_seq op2_ix (fun _ _ => rfl) (wk (dv 4)) (wk dc_int))))) (wk (d_ix ix_seq op2_ix (fun _ _ => rfl) (wk (dv 4)) (wk dc_int))))) (wk (dv 5)))) (wk (dv 1))) da_nil))))))) ds_nil)
    (ds_one (ds_if (dt_val (d_call (ok_law_good T) (hr.mono (by decide)) (by rfl) T.g_law_good T.F_law_good.kp (b_law_good T) pass0 (da_cons (dv 4) (da_cons (dv 1) da_nil))))
    (ds_one (ds_ret (dv 4))) ds_nil))))))))
    (ds_one (ds_ret (d_tup (da_cons dc_int (da_cons dc_int da_nil))))))
theorem ok_law_drawn_points (T : Txt K mg) : FnOk P w K mg base CX0 2 T.f_law_drawn_points T.d_law_drawn_points ["number", "some"] (spD K Pf.F_law_drawn_points) :=
  fn_data T.F_law_drawn_points sc_law_drawn_points fun cdv A outer s H E hr => have nd := sc_law_drawn_points.nd
    (ds_cons (ds_set (i := 2) nd rfl (by first | exact Or.inl rfl | exact Or.inr rfl) (d_ix ix_seq op2_ix (fun _ _ => rfl) (wk (d_tup (da_cons (d_bin op_mod op2_mod (wk (dv 0)) (wk dc_int)) (da_cons dc_int (da_cons dc_int da_nil))))) (wk (d_bin op_addAll op2_add (wk (d_callTy call_int1 cal_int (by rfl) T.n_int (by decide +kernel) (daw_cons (wk (d_cmp (op_eqD hr.units) op2_eq (nomark _) (wk (d_bin op_mod op2_mod (wk (d_bin op_fdiv op2_fdiv (wk (dv 0)) (wk dc_int))) (wk dc_int))) (wk dc_int))) daw_nil))) (wk (d_callTy call_int1 cal_int (by rfl) T.n_int (by decide +kernel) (daw_cons (wk (d_cmp (op_eqD hr.units) op2_eq (nomark _) (wk (d_bin op_mod op2_mod (wk (d_bin op_fdiv op2_fdiv (wk (dv 0)) (wk dc_int))) (wk dc_int))) (wk dc_int))) daw_nil)))))))
    (ds_one (ds_ret (d_callTy call_tuple_of cal_tuple (by rfl) T.n_tuple (by decide +kernel) (daw_cons (wk (d_lc (own := [("k", 3)]) rfl nd (di_range1 (by rfl) T.n_range (da_cons (dv 2) da_nil)) (blkOk_by (N := N_law_drawn_points) (sc := defScope s_law_drawn_points) (by decide +kernel)) (by decide) (fun _ _ _ _ _ => (dg_name (i := 3) nd rfl (by first | exact Or.inl rfl | exact Or.inr rfl))) (fun _ _ _ _ _ => dts_nil) (fun _ _ _ _ _ => (d_ix ix_seq op2_ix (fun _ _ => rfl) (wk (dv 1)) (wk (d_bin op_mod op2_mod (wk (d_bin op_fdiv op2_fdiv (wk (d_call (ok_law_drawn T) (hr.mono (by decide)) (by rfl) T.g_law_drawn T.F_law_drawn.kp (b_law_drawn T) pass0 (da_cons (dv 0) (da_cons (dv 3) da_nil)))) (wk dc_int))) (wk (d_callB call_len cal_len (by rfl) T.n_len PySem.boot_len (daw_cons (wk (dv 1)) daw_nil))))))))) daw_nil)))))
theorem ok_law_point_text (T : Txt K mg) : FnOk P w K mg base CX0 1 T.f_law_point_text T.d_law_point_text ["point"] (spD K Pf.F_law_point_text) :=
  fn_data T.F_law_point_text sc_law_point_text fun cdv A outer s H E hr => have nd := sc_law_point_text.nd
    (ds_cons (ds_if (dt_cmp (op_eqD hr.units) op2_eq (nomark _) (wk (dv 0)) (wk (d_tup da_nil)))
    (ds_one (ds_ret dc_str)) ds_nil)
    (ds_one (ds_ret (d_bin op_addAll op2_add (wk (d_bin op_addAll op2_add (wk (d_callTy call_str_int cal_str (by rfl) T.n_str (by decide +kernel) (daw_cons (wk (d_ix ix_seq op2_ix (fun _ _ => rfl) (wk (dv 0)) (wk dc_int))) daw_nil))) (wk dc_str))) (wk (d_callTy call_str_int cal_str (by rfl) T.n_str (by decide +kernel) (daw_cons (wk (d_ix ix_seq op2_ix (fun _ _ => rfl) (wk (dv 0)) (wk dc_int))) daw_nil)))))))
theorem ok_law_text (T : Txt K mg) : FnOk P w K mg base CX0 2 T.f_law_text T.d_law_text ["size", "curve", "some"] (spD K Pf.F_law_text) :=
  fn_data T.F_law_text sc_law_text fun cdv A outer s H E hr => have nd := sc_law_text.nd
    (ds_one (ds_ret (d_join (wk dc_str) (wk (d_bin op_addAll op2_add (wk (d_lst (da_cons (d_callTy call_str_int cal_str (by rfl) T.n_str (by decide +kernel) (daw_cons (wk (dv 0)) daw_nil)) (da_cons (d_callTy call_str_int cal_str (by rfl) T.n_str (by decide +kernel) (daw_cons (wk (d_ix ix_seq op2_ix (fun _ _ => rfl) (wk (dv 1)) (wk dc_int))) daw_nil)) (da_cons (d_callTy call_str_int cal_str (by rfl) T.n_str (by decide +kernel) (daw_cons (wk (d_ix ix_seq op2_ix (fun _ _ => rfl) (wk (dv 1)) (wk dc_int))) daw_nil)) da_nil))))) (wk (d_lc (own := [("point", 3)]) rfl nd (di_seq (dv 2)) (blkOk_by (N := N_law_text) (sc := defScope s_law_text) (by decide +kernel)) (by decide) (fun _ _ _ _ _ => (dg_name (i := 3) nd rfl (by first | exact Or.inl rfl | exact Or.inr rfl))) (fun _ _ _ _ _ => dts_nil) (fun _ _ _ _ _ => (d_call (ok_law_point_text T) (hr.mono (by decide)) (by rfl) T.g_law_point_text T.F_law_point_text.kp (b_law_point_text T) pass0 (da_cons (dv 3) da_nil))))))))))
theorem ok_law_cell_at (T : Txt K mg) : FnOk P w K mg base CX0 1 T.f_law_cell_at T.d_law_cell_at ["script", "k"] (spScr K Pf.F_law_cell_at) :=
  fn_dataS T.F_law_cell_at sc_law_cell_at fun cdv A outer s H E hr => have nd := sc_law_cell_at.nd
    (ds_cons (ds_if (dt_cmp op_lt (op2_cmp _) (nomark _) (wk (dv 1)) (wk (d_scrLen 0 (by rfl) T.n_len)))
    (ds_one (ds_ret (d_scrAt 0 (wk (dv 1))))) ds_nil)
    (ds_one (ds_ret dc_int)))
theorem ok_law_mixed (T : Txt K mg) : FnOk P w K mg base CX0 2 T.f_law_mixed T.d_law_mixed ["script", "k"] (spScr K Pf.F_law_mixed) :=
  fn_dataS T.F_law_mixed sc_law_mixed fun cdv A outer s H E hr => have nd := sc_law_mixed.nd
    (ds_cons (ds_set (i := 2) nd rfl (by first | exact Or.inl rfl | exact Or.inr rfl) (d_bin op_mod op2_mod (wk (d_bin op_mulAll op2_mul (wk (d_bin op_addAll op2_add (wk (d_bin op_addAll op2_add (wk (d_callS (i := 0) (ok_law_cell_at T) (hr.mono (by decide)) (by rfl) T.g_law_cell_at T.F_law_cell_at.kp (b_law_cell_at T) pass0 (da_cons (dv 1) da_nil))) (wk (d_bin op_mulAll op2_mul (wk dc_int) (wk (dv 1)))))) (wk dc_int))) (wk dc_int))) (wk dc_int)))
    (ds_one (ds_ret (d_bin op_mod op2_mod (wk (d_bin op_addAll op2_add (wk (d_bin op_addAll op2_add (wk (d_bin op_mulAll op2_mul (wk (dv 2)) (wk (dv 2)))) (wk (d_bin op_mulAll op2_mul (wk dc_int) (wk (dv 2)))))) (wk (dv 1)))) (wk dc_int)))))
theorem ok_number_of (T : Txt K mg) : FnOk P w K mg base CX0 1 T.f_number_of T.d_number_of ["word"] (spD K Pf.F_number_of) :=
  fn_data T.F_number_of sc_number_of fun cdv A outer s H E hr => have nd := sc_number_of.nd
    (ds_cons (ds_if (PW.pt (dt_or (dt_not (dt_chain op_le op_le (op2_cmp _) (op2_cmp _) (wk dc_int) (wk (d_callB call_len cal_len (by rfl) T.n_len PySem.boot_len (daw_cons (wk (dv 0)) daw_nil))) (wk dc_int))) (dt_or1 (dt_not (dt_val (d_callB (cr_all rfl) cal_all (by rfl) T.n_all (by decide +kernel) (daw_cons (wk (d_lc (own := [("sign", 1)]) rfl nd (di_str (dv 0)) (blkOk_by (N := N_number_of) (sc := defScope s_number_of) (by decide +kernel)) (by decide) (fun _ _ _ _ _ => (dg_name (i := 1) nd rfl (by first | exact Or.inl rfl | exact Or.inr rfl))) (fun _ _ _ _ _ => dts_nil) (fun _ _ _ _ _ => (d_cmp op_in_sign op2_inS (by rfl) (wk (dv 1)) (wk (dglob T.c_FIGURES)))))) daw_nil)))))))
    (ds_one ds_never) ds_nil)
    (ds_one (ds_ret (d_callTy call_int_str cal_intS (by rfl) T.n_int (by decide +kernel) (daw_cons (wk (dv 0)) daw_nil)))))
theorem okz_number_of (T : Txt K mg) : FnOk P w K mg base (L2.CX P w) 1 T.f_number_of T.d_number_of ["word"] (spR K T.a_NoText Pf.Z_number_of) :=
  fn_raise T.F_number_of sc_number_of fun cdv A outer s H E hr => have nd := sc_number_of.nd
    (rs_head (rs_if (PW.pt (dt_or (dt_not (dt_chain op_le op_le (op2_cmp _) (op2_cmp _) (wk dc_int) (wk (d_callB call_len cal_len (by rfl) T.n_len PySem.boot_len (daw_cons (wk (dv 0)) daw_nil))) (wk dc_int))) (dt_or1 (dt_not (dt_val (d_callB (cr_all rfl) cal_all (by rfl) T.n_all (by decide +kernel) (daw_cons (wk (d_lc (own := [("sign", 1)]) rfl nd (di_str (dv 0)) (blkOk_by (N := N_number_of) (sc := defScope s_number_of) (by decide +kernel)) (by decide) (fun _ _ _ _ _ => (dg_name (i := 1) nd rfl (by first | exact Or.inl rfl | exact Or.inr rfl))) (fun _ _ _ _ _ => dts_nil) (fun _ _ _ _ _ => (d_cmp op_in_sign op2_inS (by rfl) (wk (dv 1)) (wk (dglob T.c_FIGURES)))))) daw_nil))))))) (rs_head (rs_raise T.x_NoText rfl (takes_of rfl rfl rfl rfl) (by rfl)))))
theorem ok_point_text (T : Txt K mg) : FnOk P w K mg base CX0 1 T.f_point_text T.d_point_text ["point"] (spD K Pf.F_point_text) :=
  fn_data T.F_point_text sc_point_text fun cdv A outer s H E hr => have nd := sc_point_text.nd
    (ds_cons (ds_if (dt_cmp (op_eqD hr.units) op2_eq (nomark _) (wk (dv 0)) (wk (d_tup da_nil)))
    (ds_one (ds_ret dc_str)) ds_nil)
    (ds_one (ds_ret (d_bin op_addAll op2_add (wk (d_bin op_addAll op2_add (wk (d_callTy call_str_int cal_str (by rfl) T.n_str (by decide +kernel) (daw_cons (wk (d_ix ix_seq op2_ix (fun _ _ => rfl) (wk (dv 0)) (wk dc_int))) daw_nil))) (wk dc_str))) (wk (d_callTy call_str_int cal_str (by rfl) T.n_str (by decide +kernel) (daw_cons (wk (d_ix ix_seq op2_ix (fun _ _ => rfl) (wk (dv 0)) (wk dc_int))) daw_nil)))))))
theorem ok_written (T : Txt K mg) : FnOk P w K mg base CX0 2 T.f_written T.d_written ["size", "curve", "some"] (spD K Pf.F_written) :=
  fn_data T.F_written sc_written fun cdv A outer s H E hr => have nd := sc_written.nd
    (ds_one (ds_ret (d_join (wk dc_str) (wk (d_bin op_addAll op2_add (wk (d_lst (da_cons (d_callTy call_str_int cal_str (by rfl) T.n_str (by decide +kernel) (daw_cons (wk (dv 0)) daw_nil)) (da_cons (d_callTy call_str_int cal_str (by rfl) T.n_str (by decide +kernel) (daw_cons (wk (d_ix ix_seq op2_ix (fun _ _ => rfl) (wk (dv 1)) (wk dc_int))) daw_nil)) (da_cons (d_callTy call_str_int cal_str (by rfl) T.n_str (by decide +kernel) (daw_cons (wk (d_ix ix_seq op2_ix (fun _ _ => rfl) (wk (dv 1)) (wk dc_int))) daw_nil)) da_nil))))) (wk (d_lc (own := [("point", 3)]) rfl nd (di_seq (dv 2)) (blkOk_by (N := N_written) (sc := defScope s_written) (by decide +kernel)) (by decide) (fun _ _ _ _ _ => (dg_name (i := 3) nd rfl (by first | exact Or.inl rfl | exact Or.inr rfl))) (fun _ _ _ _ _ => dts_nil) (fun _ _ _ _ _ => (d_call (ok_point_text T) (hr.mono (by decide)) (by rfl) T.g_point_text T.F_point_text.kp (b_point_text T) pass0 (da_cons (dv 3) da_nil))))))))))
theorem ok_point_of (T : Txt K mg) : FnOk P w K mg base CX0 2 T.f_point_of T.d_point_of ["word"] (spD K Pf.F_point_of) :=
  fn_data T.F_point_of sc_point_of fun cdv A outer s H E hr => have nd := sc_point_of.nd
    (ds_cons (ds_if (dt_cmp (op_eqD hr.units) op2_eq (nomark _) (wk (dv 0)) (wk dc_str))
    (ds_one (ds_ret (d_tup da_nil))) ds_nil)
    (ds_cons (ds_set (i := 1) nd rfl (by first | exact Or.inl rfl | exact Or.inr rfl) (d_split (wk (dv 0)) (wk dc_str)))
    (ds_cons (ds_if (dt_cmp (op_neD hr.units) op2_ne (nomark _) (wk (d_callB call_len cal_len (by rfl) T.n_len PySem.boot_len (daw_cons (wk (dv 1)) daw_nil))) (wk dc_int))
    (ds_one ds_never) ds_nil)
    (ds_one (ds_ret (d_tup (da_cons (d_call (ok_number_of T) (hr.mono (by decide)) (by rfl) T.g_number_of T.F_number_of.kp (b_number_of T) pass0 (da_cons (d_ix ix_seq op2_ix (fun _ _ => rfl) (wk (dv 1)) (wk dc_int)) da_nil)) (da_cons (d_call (ok_number_of T) (hr.mono (by decide)) (by rfl) T.g_number_of T.F_number_of.kp (b_number_of T) pass0 (da_cons (d_ix ix_seq op2_ix (fun _ _ => rfl) (wk (dv 1)) (wk dc_int)) da_nil)) da_nil))))))))
theorem okz_point_of (T : Txt K mg) : FnOk P w K mg base (L2.CX P w) 2 T.f_point_of T.d_point_of ["word"] (spR K T.a_NoText Pf.Z_point_of) :=
  fn_raise T.F_point_of sc_point_of fun cdv A outer s H E hr => have nd := sc_point_of.nd
    (rs_cons (ds_if (dt_cmp (op_eqD hr.units) op2_eq (nomark _) (wk (dv 0)) (wk dc_str))
    (ds_one (ds_ret (d_tup da_nil))) ds_nil)
    (rs_cons (ds_set (i := 1) nd rfl (by first | exact Or.inl rfl | exact Or.inr rfl) (d_split (wk (dv 0)) (wk dc_str)))
    (rs_or (rs_head (rs_if (dt_cmp (op_neD hr.units) op2_ne (nomark _) (wk (d_callB call_len cal_len (by rfl) T.n_len PySem.boot_len (daw_cons (wk (dv 1)) daw_nil))) (wk dc_int)) (rs_head (rs_raise T.x_NoText rfl (takes_of rfl rfl rfl rfl) (by rfl)))))
    (rs_cons (ds_if (dt_cmp (op_neD hr.units) op2_ne (nomark _) (wk (d_callB call_len cal_len (by rfl) T.n_len PySem.boot_len (daw_cons (wk (dv 1)) daw_nil))) (wk dc_int))
    (ds_one ds_never) ds_nil)
    (rs_ret (re_or (re_tupA (re_call (okz_number_of T) (hr.mono (by decide)) (by rfl) T.g_number_of T.F_number_of.kp (b_number_of T) (takes_of rfl rfl rfl rfl) (da_cons (d_ix ix_seq op2_ix (fun _ _ => rfl) (wk (dv 1)) (wk dc_int)) da_nil)))
    (re_tupB (d_call (ok_number_of T) (hr.mono (by decide)) (by rfl) T.g_number_of T.F_number_of.kp (b_number_of T) pass0 (da_cons (d_ix ix_seq op2_ix (fun _ _ => rfl) (wk (dv 1)) (wk dc_int)) da_nil)) (re_call (okz_number_of T) (hr.mono (by decide)) (by rfl) T.g_number_of T.F_number_of.kp (b_number_of T) (takes_of rfl rfl rfl rfl) (da_cons (d_ix ix_seq op2_ix (fun _ _ => rfl) (wk (dv 1)) (wk dc_int)) da_nil)))))))))
theorem ok_is_whole (T : Txt K mg) : FnOk P w K mg base CX0 1 T.f_is_whole T.d_is_whole ["thing"] (spD K Pf.F_is_whole) :=
  fn_data T.F_is_whole sc_is_whole fun cdv A outer s H E hr => have nd := sc_is_whole.nd
    (ds_one (ds_ret (dv_and (d_isi isT_int (by rfl) T.n_isinstance (wk (dv 0)) (d_ty (by rfl) T.n_int (by decide +kernel))) (dv_one (dv_not (d_isi isT_bool (by rfl) T.n_isinstance (wk (dv 0)) (d_ty (by rfl) T.n_bool (by decide +kernel))))))))
theorem ok_is_clock (T : Txt K mg) : FnOk P w K mg base CX0 2 T.f_is_clock T.d_is_clock ["thing"] (spD K Pf.F_is_clock) :=
  fn_data T.F_is_clock sc_is_clock fun cdv A outer s H E hr => have nd := sc_is_clock.nd
    (ds_one (ds_ret (dv_and (d_call (ok_is_whole T) (hr.mono (by decide)) (by rfl) T.g_is_whole T.F_is_whole.kp (b_is_whole T) pass0 (da_cons (dv 0) da_nil)) (dv_one (d_inC T.c_PRIMES (hu65 hr) (wk (dv 0)))))))
theorem ok_is_number (T : Txt K mg) : FnOk P w K mg base CX0 2 T.f_is_number T.d_is_number ["thing", "size"] (spD K Pf.F_is_number) :=
  fn_data T.F_is_number sc_is_number fun cdv A outer s H E hr => have nd := sc_is_number.nd
    (ds_one (ds_ret (dv_and (d_call (ok_is_whole T) (hr.mono (by decide)) (by rfl) T.g_is_whole T.F_is_whole.kp (b_is_whole T) pass0 (da_cons (dv 0) da_nil)) (dv_one (d_chain op_le op_lt (op2_cmp _) (op2_cmp _) (wk dc_int) (wk (dv 0)) (wk (dv 1)))))))
theorem ok_is_curve (T : Txt K mg) : FnOk P w K mg base CX0 3 T.f_is_curve T.d_is_curve ["thing", "size"] (spD K Pf.F_is_curve) :=
  fn_data T.F_is_curve sc_is_curve fun cdv A outer s H E hr => have nd := sc_is_curve.nd
    (ds_cons (ds_if (PW.pt (dt_or (dt_not (dt_val (d_isi isT_tuple (by rfl) T.n_isinstance (wk (dv 0)) (d_ty (by rfl) T.n_tuple (by decide +kernel))))) (dt_or (dt_cmp (op_neD hr.units) op2_ne (nomark _) (wk (d_callB call_len cal_len (by rfl) T.n_len PySem.boot_len (daw_cons (wk (dv 0)) daw_nil))) (wk dc_int)) (dt_or1 (dt_not (dt_val (d_callB (cr_all rfl) cal_all (by rfl) T.n_all (by decide +kernel) (daw_cons (wk (d_lc (own := [("part", 2)]) rfl nd (di_seq (dv 0)) (blkOk_by (N := N_is_curve) (sc := defScope s_is_curve) (by decide +kernel)) (by decide) (fun _ _ _ _ _ => (dg_name (i := 2) nd rfl (by first | exact Or.inl rfl | exact Or.inr rfl))) (fun _ _ _ _ _ => dts_nil) (fun _ _ _ _ _ => (d_call (ok_is_number T) (hr.mono (by decide)) (by rfl) T.g_is_number T.F_is_number.kp (b_is_number T) pass0 (da_cons (dv 2) (da_cons (dv 1) da_nil)))))) daw_nil))))))))
    (ds_one (ds_ret dc_bl)) ds_nil)
    (ds_one (ds_ret (d_cmp (op_neD hr.units) op2_ne (nomark _) (wk (d_bin op_mod op2_mod (wk (d_bin op_addAll op2_add (wk (d_bin op_mulAll op2_mul (wk (d_bin op_mulAll op2_mul (wk (d_bin op_mulAll op2_mul (wk dc_int) (wk (d_ix ix_seq op2_ix (fun _ _ => rfl) (wk (dv 0)) (wk dc_int))))) (wk (d_ix ix_seq op2_ix (fun _ _ => rfl) (wk (dv 0)) (wk dc_int))))) (wk (d_ix ix_seq op2_ix (fun _ _ => rfl) (wk (dv 0)) (wk dc_int))))) (wk (d_bin op_mulAll op2_mul (wk (d_bin op_mulAll op2_mul (wk dc_int) (wk (d_ix ix_seq op2_ix (fun _ _ => rfl) (wk (dv 0)) (wk dc_int))))) (wk (d_ix ix_seq op2_ix (fun _ _ => rfl) (wk (dv 0)) (wk dc_int))))))) (wk (dv 1)))) (wk dc_int)))))
theorem ok_height (T : Txt K mg) : FnOk P w K mg base CX0 1 T.f_height T.d_height ["curve", "size", "x"] (spD K Pf.F_height) :=
  fn_data T.F_height sc_height fun cdv A outer s H E hr => have nd := sc_height.nd
    (ds_one (ds_ret (d_bin op_mod op2_mod (wk (d_bin op_addAll op2_add (wk (d_bin op_addAll op2_add (wk (d_bin op_mulAll op2_mul (wk (d_bin op_mulAll op2_mul (wk (dv 2)) (wk (dv 2)))) (wk (dv 2)))) (wk (d_bin op_mulAll op2_mul (wk (d_ix ix_seq op2_ix (fun _ _ => rfl) (wk (dv 0)) (wk dc_int))) (wk (dv 2)))))) (wk (d_ix ix_seq op2_ix (fun _ _ => rfl) (wk (dv 0)) (wk dc_int))))) (wk (dv 1)))))
theorem ok_is_point (T : Txt K mg) : FnOk P w K mg base CX0 3 T.f_is_point T.d_is_point ["thing", "curve", "size"] (spD K Pf.F_is_point) :=
  fn_data T.F_is_point sc_is_point fun cdv A outer s H E hr => have nd := sc_is_point.nd
    (ds_cons (ds_if (dt_cmp (op_eqD hr.units) op2_eq (nomark _) (wk (dv 0)) (wk (d_tup da_nil)))
    (ds_one (ds_ret (d_isi isT_tuple (by rfl) T.n_isinstance (wk (dv 0)) (d_ty (by rfl) T.n_tuple (by decide +kernel))))) ds_nil)
    (ds_cons (ds_if (PW.pt (dt_or (dt_not (dt_val (d_isi isT_tuple (by rfl) T.n_isinstance (wk (dv 0)) (d_ty (by rfl) T.n_tuple (by decide +kernel))))) (dt_or (dt_cmp (op_neD hr.units) op2_ne (nomark _) (wk (d_callB call_len cal_len (by rfl) T.n_len PySem.boot_len (daw_cons (wk (dv 0)) daw_nil))) (wk dc_int)) (dt_or1 (dt_not (dt_val (d_callB (cr_all rfl) cal_all (by rfl) T.n_all (by decide +kernel) (daw_cons (wk (d_lc (own := [("part", 3)]) rfl nd (di_seq (dv 0)) (blkOk_by (N := N_is_point) (sc := defScope s_is_point) (by decide +kernel)) (by decide) (fun _ _ _ _ _ => (dg_name (i := 3) nd rfl (by first | exact Or.inl rfl | exact Or.inr rfl))) (fun _ _ _ _ _ => dts_nil) (fun _ _ _ _ _ => (d_call (ok_is_number T) (hr.mono (by decide)) (by rfl) T.g_is_number T.F_is_number.kp (b_is_number T) pass0 (da_cons (dv 3) (da_cons (dv 2) da_nil)))))) daw_nil))))))))
    (ds_one (ds_ret dc_bl)) ds_nil)
    (ds_one (ds_ret (d_cmp (op_eqD hr.units) op2_eq (nomark _) (wk (d_bin op_mod op2_mod (wk (d_bin op_mulAll op2_mul (wk (d_ix ix_seq op2_ix (fun _ _ => rfl) (wk (dv 0)) (wk dc_int))) (wk (d_ix ix_seq op2_ix (fun _ _ => rfl) (wk (dv 0)) (wk dc_int))))) (wk (dv 2)))) (wk (d_call (ok_height T) (hr.mono (by decide)) (by rfl) T.g_height T.F_height.kp (b_height T) pass0 (da_cons (dv 1) (da_cons (dv 2) (da_cons (d_ix ix_seq op2_ix (fun _ _ => rfl) (wk (dv 0)) (wk dc_int)) da_nil))))))))))
theorem ok_read (T : Txt K mg) : FnOk P w K mg base CX0 4 T.f_read T.d_read ["text"] (spD K Pf.F_read) :=
  fn_data T.F_read sc_read fun cdv A outer s H E hr => have nd := sc_read.nd
    (ds_cons (ds_if (dt_not (dt_val (d_isi isT_str (by rfl) T.n_isinstance (wk (dv 0)) (d_ty (by rfl) T.n_str (by decide +kernel)))))
    (ds_one ds_never) ds_nil)
    (ds_cons (ds_set (i := 1) nd rfl (by first | exact Or.inl rfl | exact Or.inr rfl) (d_split (wk (dv 0)) (wk dc_str)))
    (ds_cons (ds_if (dt_not (dt_chain op_le op_le (op2_cmp _) (op2_cmp _) (wk dc_int) (wk (d_callB call_len cal_len (by rfl) T.n_len PySem.boot_len (daw_cons (wk (dv 1)) daw_nil))) (wk (d_bin op_addAll op2_add (wk dc_int) (wk (dglob T.c_MOST))))))
    (ds_one ds_never) ds_nil)
    (ds_cons (ds_set (i := 2) nd rfl (by first | exact Or.inl rfl | exact Or.inr rfl) (d_call (ok_number_of T) (hr.mono (by decide)) (by rfl) T.g_number_of T.F_number_of.kp (b_number_of T) pass0 (da_cons (d_ix ix_seq op2_ix (fun _ _ => rfl) (wk (dv 1)) (wk dc_int)) da_nil)))
    (ds_cons (ds_set (i := 3) nd rfl (by first | exact Or.inl rfl | exact Or.inr rfl) (d_tup (da_cons (d_call (ok_number_of T) (hr.mono (by decide)) (by rfl) T.g_number_of T.F_number_of.kp (b_number_of T) pass0 (da_cons (d_ix ix_seq op2_ix (fun _ _ => rfl) (wk (dv 1)) (wk dc_int)) da_nil)) (da_cons (d_call (ok_number_of T) (hr.mono (by decide)) (by rfl) T.g_number_of T.F_number_of.kp (b_number_of T) pass0 (da_cons (d_ix ix_seq op2_ix (fun _ _ => rfl) (wk (dv 1)) (wk dc_int)) da_nil)) da_nil))))
    (ds_cons (ds_set (i := 4) nd rfl (by first | exact Or.inl rfl | exact Or.inr rfl) (d_callTy call_tuple_of cal_tuple (by rfl) T.n_tuple (by decide +kernel) (daw_cons (wk (d_lc (own := [("word", 5)]) rfl nd (di_seq (d_slice (wk (dv 1)) (do_some dc_int) do_none)) (blkOk_by (N := N_read) (sc := defScope s_read) (by decide +kernel)) (by decide) (fun _ _ _ _ _ => (dg_name (i := 5) nd rfl (by first | exact Or.inl rfl | exact Or.inr rfl))) (fun _ _ _ _ _ => dts_nil) (fun _ _ _ _ _ => (d_call (ok_point_of T) (hr.mono (by decide)) (by rfl) T.g_point_of T.F_point_of.kp (b_point_of T) pass0 (da_cons (dv 5) da_nil))))) daw_nil)))
    (ds_cons (ds_if (PW.pt (dt_or (dt_not (dt_val (d_call (ok_is_clock T) (hr.mono (by decide)) (by rfl) T.g_is_clock T.F_is_clock.kp (b_is_clock T) pass0 (da_cons (dv 2) da_nil)))) (dt_or (dt_not (dt_val (d_call (ok_is_curve T) (hr.mono (by decide)) (by rfl) T.g_is_curve T.F_is_curve.kp (b_is_curve T) pass0 (da_cons (dv 3) (da_cons (dv 2) da_nil))))) (dt_or1 (dt_not (dt_val (d_callB (cr_all rfl) cal_all (by rfl) T.n_all (by decide +kernel) (daw_cons (wk (d_lc (own := [("point", 6)]) rfl nd (di_seq (dv 4)) (blkOk_by (N := N_read) (sc := defScope s_read) (by decide +kernel)) (by decide) (fun _ _ _ _ _ => (dg_name (i := 6) nd rfl (by first | exact Or.inl rfl | exact Or.inr rfl))) (fun _ _ _ _ _ => dts_nil) (fun _ _ _ _ _ => (d_call (ok_is_point T) (hr.mono (by decide)) (by rfl) T.g_is_point T.F_is_point.kp (b_is_point T) pass0 (da_cons (dv 6) (da_cons (dv 3) (da_cons (dv 2) da_nil))))))) daw_nil))))))))
    (ds_one ds_never) ds_nil)
    (ds_cons (ds_if (dt_cmp (op_neD hr.units) op2_ne (nomark _) (wk (d_call (ok_written T) (hr.mono (by decide)) (by rfl) T.g_written T.F_written.kp (b_written T) pass0 (da_cons (dv 2) (da_cons (dv 3) (da_cons (dv 4) da_nil))))) (wk (dv 0)))
    (ds_one ds_never) ds_nil)
    (ds_one (ds_ret (d_tup (da_cons (dv 2) (da_cons (dv 3) (da_cons (dv 4) da_nil))))))))))))))
theorem okz_read (T : Txt K mg) : FnOk P w K mg base (L2.CX P w) 4 T.f_read T.d_read ["text"] (spR K T.a_NoText Pf.Z_read) :=
  fn_raise T.F_read sc_read fun cdv A outer s H E hr => have nd := sc_read.nd
    (rs_or (rs_head (rs_if (dt_not (dt_val (d_isi isT_str (by rfl) T.n_isinstance (wk (dv 0)) (d_ty (by rfl) T.n_str (by decide +kernel))))) (rs_head (rs_raise T.x_NoText rfl (takes_of rfl rfl rfl rfl) (by rfl)))))
    (rs_cons (ds_if (dt_not (dt_val (d_isi isT_str (by rfl) T.n_isinstance (wk (dv 0)) (d_ty (by rfl) T.n_str (by decide +kernel)))))
    (ds_one ds_never) ds_nil)
    (rs_cons (ds_set (i := 1) nd rfl (by first | exact Or.inl rfl | exact Or.inr rfl) (d_split (wk (dv 0)) (wk dc_str)))
    (rs_or (rs_head (rs_if (dt_not (dt_chain op_le op_le (op2_cmp _) (op2_cmp _) (wk dc_int) (wk (d_callB call_len cal_len (by rfl) T.n_len PySem.boot_len (daw_cons (wk (dv 1)) daw_nil))) (wk (d_bin op_addAll op2_add (wk dc_int) (wk (dglob T.c_MOST)))))) (rs_head (rs_raise T.x_NoText rfl (takes_of rfl rfl rfl rfl) (by rfl)))))
    (rs_cons (ds_if (dt_not (dt_chain op_le op_le (op2_cmp _) (op2_cmp _) (wk dc_int) (wk (d_callB call_len cal_len (by rfl) T.n_len PySem.boot_len (daw_cons (wk (dv 1)) daw_nil))) (wk (d_bin op_addAll op2_add (wk dc_int) (wk (dglob T.c_MOST))))))
    (ds_one ds_never) ds_nil)
    (rs_or (rs_head (rs_set (i := 2) nd rfl (by first | exact Or.inl rfl | exact Or.inr rfl) (re_call (okz_number_of T) (hr.mono (by decide)) (by rfl) T.g_number_of T.F_number_of.kp (b_number_of T) (takes_of rfl rfl rfl rfl) (da_cons (d_ix ix_seq op2_ix (fun _ _ => rfl) (wk (dv 1)) (wk dc_int)) da_nil))))
    (rs_cons (ds_set (i := 2) nd rfl (by first | exact Or.inl rfl | exact Or.inr rfl) (d_call (ok_number_of T) (hr.mono (by decide)) (by rfl) T.g_number_of T.F_number_of.kp (b_number_of T) pass0 (da_cons (d_ix ix_seq op2_ix (fun _ _ => rfl) (wk (dv 1)) (wk dc_int)) da_nil)))
    (rs_or (rs_head (rs_set (i := 3) nd rfl (by first | exact Or.inl rfl | exact Or.inr rfl) (re_or (re_tupA (re_call (okz_number_of T) (hr.mono (by decide)) (by rfl) T.g_number_of T.F_number_of.kp (b_number_of T) (takes_of rfl rfl rfl rfl) (da_cons (d_ix ix_seq op2_ix (fun _ _ => rfl) (wk (dv 1)) (wk dc_int)) da_nil)))
    (re_tupB (d_call (ok_number_of T) (hr.mono (by decide)) (by rfl) T.g_number_of T.F_number_of.kp (b_number_of T) pass0 (da_cons (d_ix ix_seq op2_ix (fun _ _ => rfl) (wk (dv 1)) (wk dc_int)) da_nil)) (re_call (okz_number_of T) (hr.mono (by decide)) (by rfl) T.g_number_of T.F_number_of.kp (b_number_of T) (takes_of rfl rfl rfl rfl) (da_cons (d_ix ix_seq op2_ix (fun _ _ => rfl) (wk (dv 1)) (wk dc_int)) da_nil))))))
    (rs_cons (ds_set (i := 3) nd rfl (by first | exact Or.inl rfl | exact Or.inr rfl) (d_tup (da_cons (d_call (ok_number_of T) (hr.mono (by decide)) (by rfl) T.g_number_of T.F_number_of.kp (b_number_of T) pass0 (da_cons (d_ix ix_seq op2_ix (fun _ _ => rfl) (wk (dv 1)) (wk dc_int)) da_nil)) (da_cons (d_call (ok_number_of T) (hr.mono (by decide)) (by rfl) T.g_number_of T.F_number_of.kp (b_number_of T) pass0 (da_cons (d_ix ix_seq op2_ix (fun _ _ => rfl) (wk (dv 1)) (wk dc_int)) da_nil)) da_nil))))
    (rs_or (rs_head (rs_set (i := 4) nd rfl (by first | exact Or.inl rfl | exact Or.inr rfl) (re_ty1 call_tuple_of (by rfl) T.n_tuple (by decide +kernel) (re_lc (own := [("word", 5)]) rfl rfl rfl nd (di_seq (d_slice (wk (dv 1)) (do_some dc_int) do_none)) (blkOk_by (N := N_read) (sc := defScope s_read) (by decide +kernel)) (by decide +kernel) (by decide) (fun _ _ _ _ _ => (dg_name (i := 5) nd rfl (by first | exact Or.inl rfl | exact Or.inr rfl))) (fun _ _ _ _ _ => (d_call (ok_point_of T) (hr.mono (by decide)) (by rfl) T.g_point_of T.F_point_of.kp (b_point_of T) pass0 (da_cons (dv 5) da_nil))) (fun _ _ _ _ _ xe W2 hx => (re_callP (okz_point_of T) (hr.mono (by decide)) (by rfl) T.g_point_of T.F_point_of.kp (b_point_of T) hx (da_cons (dv 5) da_nil))) (takes_of rfl rfl rfl rfl)))))
    (rs_cons (ds_set (i := 4) nd rfl (by first | exact Or.inl rfl | exact Or.inr rfl) (d_callTy call_tuple_of cal_tuple (by rfl) T.n_tuple (by decide +kernel) (daw_cons (wk (d_lc (own := [("word", 5)]) rfl nd (di_seq (d_slice (wk (dv 1)) (do_some dc_int) do_none)) (blkOk_by (N := N_read) (sc := defScope s_read) (by decide +kernel)) (by decide) (fun _ _ _ _ _ => (dg_name (i := 5) nd rfl (by first | exact Or.inl rfl | exact Or.inr rfl))) (fun _ _ _ _ _ => dts_nil) (fun _ _ _ _ _ => (d_call (ok_point_of T) (hr.mono (by decide)) (by rfl) T.g_point_of T.F_point_of.kp (b_point_of T) pass0 (da_cons (dv 5) da_nil))))) daw_nil)))
    (rs_or (rs_head (rs_if (PW.pt (dt_or (dt_not (dt_val (d_call (ok_is_clock T) (hr.mono (by decide)) (by rfl) T.g_is_clock T.F_is_clock.kp (b_is_clock T) pass0 (da_cons (dv 2) da_nil)))) (dt_or (dt_not (dt_val (d_call (ok_is_curve T) (hr.mono (by decide)) (by rfl) T.g_is_curve T.F_is_curve.kp (b_is_curve T) pass0 (da_cons (dv 3) (da_cons (dv 2) da_nil))))) (dt_or1 (dt_not (dt_val (d_callB (cr_all rfl) cal_all (by rfl) T.n_all (by decide +kernel) (daw_cons (wk (d_lc (own := [("point", 6)]) rfl nd (di_seq (dv 4)) (blkOk_by (N := N_read) (sc := defScope s_read) (by decide +kernel)) (by decide) (fun _ _ _ _ _ => (dg_name (i := 6) nd rfl (by first | exact Or.inl rfl | exact Or.inr rfl))) (fun _ _ _ _ _ => dts_nil) (fun _ _ _ _ _ => (d_call (ok_is_point T) (hr.mono (by decide)) (by rfl) T.g_is_point T.F_is_point.kp (b_is_point T) pass0 (da_cons (dv 6) (da_cons (dv 3) (da_cons (dv 2) da_nil))))))) daw_nil)))))))) (rs_head (rs_raise T.x_NoText rfl (takes_of rfl rfl rfl rfl) (by rfl)))))
    (rs_cons (ds_if (PW.pt (dt_or (dt_not (dt_val (d_call (ok_is_clock T) (hr.mono (by decide)) (by rfl) T.g_is_clock T.F_is_clock.kp (b_is_clock T) pass0 (da_cons (dv 2) da_nil)))) (dt_or (dt_not (dt_val (d_call (ok_is_curve T) (hr.mono (by decide)) (by rfl) T.g_is_curve T.F_is_curve.kp (b_is_curve T) pass0 (da_cons (dv 3) (da_cons (dv 2) da_nil))))) (dt_or1 (dt_not (dt_val (d_callB (cr_all rfl) cal_all (by rfl) T.n_all (by decide +kernel) (daw_cons (wk (d_lc (own := [("point", 6)]) rfl nd (di_seq (dv 4)) (blkOk_by (N := N_read) (sc := defScope s_read) (by decide +kernel)) (by decide) (fun _ _ _ _ _ => (dg_name (i := 6) nd rfl (by first | exact Or.inl rfl | exact Or.inr rfl))) (fun _ _ _ _ _ => dts_nil) (fun _ _ _ _ _ => (d_call (ok_is_point T) (hr.mono (by decide)) (by rfl) T.g_is_point T.F_is_point.kp (b_is_point T) pass0 (da_cons (dv 6) (da_cons (dv 3) (da_cons (dv 2) da_nil))))))) daw_nil))))))))
    (ds_one ds_never) ds_nil)
    (rs_head (rs_if (dt_cmp (op_neD hr.units) op2_ne (nomark _) (wk (d_call (ok_written T) (hr.mono (by decide)) (by rfl) T.g_written T.F_written.kp (b_written T) pass0 (da_cons (dv 2) (da_cons (dv 3) (da_cons (dv 4) da_nil))))) (wk (dv 0))) (rs_head (rs_raise T.x_NoText rfl (takes_of rfl rfl rfl rfl) (by rfl))))))))))))))))))
theorem ok_law_told (T : Txt K mg) : FnOk P w K mg base CX0 5 T.f_law_told T.d_law_told ["text"] (spD K Pf.F_law_told) :=
  fn_data T.F_law_told sc_law_told fun cdv A outer s H E hr => have nd := sc_law_told.nd
    (ds_cons (ps_tryB (i := 1) (j := 3) rfl rfl nd rfl rfl ⟨rfl, by decide, .inl T.x_NoText.g⟩ takes0 T.m_NoText (ds_one (ds_set (i := 2) nd rfl (by first | exact Or.inl rfl | exact Or.inr rfl) (d_call (ok_read T) (hr.mono (by decide)) (by rfl) T.g_read T.F_read.kp (b_read T) pass0 (da_cons (dv 0) da_nil)))) (fun W pn xe tk => rs_setX (i := 2) nd rfl (by first | exact Or.inl rfl | exact Or.inr rfl) (re_call (okz_read T) (hr.mono (by decide)) (by rfl) T.g_read T.F_read.kp (b_read T) tk (da_cons (dv 0) da_nil)))
    (fun a oe cls d pn hz hf => pss_tsB (j := 3) nd rfl (by first | exact Or.inl rfl | exact Or.inr rfl) (fun h1 h2 => by subst h1; subst h2; exact (ce_and (ce_own T.e_NoText hz hf (by rfl) T.n_isinstance (by rfl) (by exact Or.inl rfl) (by decide) (by decide) (by rfl) T.g_CurveError T.k_NoText_CurveError (by decide)) (ce_and (ce_ty T.e_NoText hz hf (by rfl) T.n_isinstance (by rfl) (by exact Or.inl rfl) (by decide) (by decide) (by rfl) T.n_ValueError (by rfl) (by decide) T.k_NoText_ValueError (by decide)) (ce_one (ce_not (b := false) (ce_two T.e_NoText hz hf (by rfl) T.n_isinstance (by rfl) (by exact Or.inl rfl) (by decide) (by decide) (by rfl) T.g_NoNumber (by decide) (by rfl) T.g_NoPoint (by decide) T.k2_NoText_NoNumber_NoPoint)))))) (ds_one (ds_ret (d_ix ix_seq op2_ix (fun _ _ => rfl) (wk (d_lst (da_cons dc_int (da_cons dc_non da_nil)))) (wk (d_callTy call_int1 cal_int (by rfl) T.n_int (by decide +kernel) (daw_cons (wk (dv 3)) daw_nil))))))))
    (ds_one (ds_ret (d_ix ix_seq op2_ix (fun _ _ => rfl) (wk (d_lst (da_cons (dv 2) (da_cons dc_int da_nil)))) (wk (d_callTy call_int1 cal_int (by rfl) T.n_int (by decide +kernel) (daw_cons (wk (d_cmp op_isN op2_isN (nomark _) (wk (dv 2)) (wk dc_non))) daw_nil)))))))
theorem ok_law_points (T : Txt K mg) : FnOk P w K mg base CX0 1 T.f_law_points T.d_law_points ["curve", "size"] (spD K Pf.F_law_points) :=
  fn_data T.F_law_points sc_law_points fun cdv A outer s H E hr => have nd := sc_law_points.nd
    (ds_cons (ds_asg (dv 0) (dg_tup rfl (dgs_cons (dg_name (i := 4) nd rfl (by first | exact Or.inl rfl | exact Or.inr rfl)) (dgs_cons (dg_name (i := 5) nd rfl (by first | exact Or.inl rfl | exact Or.inr rfl)) dgs_nil))))
    (ds_cons (ds_setO (i := 2) nd rfl (by first | exact Or.inl rfl | exact Or.inr rfl) (dl_lst (da_cons (d_tup da_nil) da_nil)))
    (ds_cons (ds_for PassesOwn.never rfl (di_range1 (by rfl) T.n_range (da_cons (dv 1) da_nil)) (dg_name (i := 3) nd rfl (by first | exact Or.inl rfl | exact Or.inr rfl))
    (ds_one (ds_for PassesOwn.never rfl (di_range1 (by rfl) T.n_range (da_cons (dv 1) da_nil)) (dg_name (i := 6) nd rfl (by first | exact Or.inl rfl | exact Or.inr rfl))
    (ds_one (ds_if (dt_cmp (op_eqD hr.units) op2_eq (nomark _) (wk (d_bin op_mod op2_mod (wk (d_bin op_sub op2_sub (wk (d_bin op_sub op2_sub (wk (d_bin op_sub op2_sub (wk (d_bin op_mulAll op2_mul (wk (dv 6)) (wk (dv 6)))) (wk (d_bin op_mulAll op2_mul (wk (d_bin op_mulAll op2_mul (wk (dv 3)) (wk (dv 3)))) (wk (dv 3)))))) (wk (d_bin op_mulAll op2_mul (wk (dv 4)) (wk (dv 3)))))) (wk (dv 5)))) (wk (dv 1)))) (wk dc_int))
    (ds_one (ds_app 2 (d_tup (da_cons (dv 3) (da_cons (dv 6) da_nil))))) ds_nil)))))
    (ds_one (ds_retO 2)))))
theorem ok_law_changed (T : Txt K mg) : FnOk P w K mg base CX0 1 T.f_law_changed T.d_law_changed ["text", "number"] (spD K Pf.F_law_changed) :=
  fn_data T.F_law_changed sc_law_changed fun cdv A outer s H E hr => have nd := sc_law_changed.nd
    (ds_cons (ds_set (i := 2) nd rfl (by first | exact Or.inl rfl | exact Or.inr rfl) (d_bin op_mod op2_mod (wk (d_bin op_fdiv op2_fdiv (wk (dv 1)) (wk dc_int))) (wk (d_bin op_addAll op2_add (wk (d_callB call_len cal_len (by rfl) T.n_len PySem.boot_len (daw_cons (wk (dv 0)) daw_nil))) (wk dc_int)))))
    (ds_cons (ds_set (i := 3) nd rfl (by first | exact Or.inl rfl | exact Or.inr rfl) (d_ix ix_seq op2_ix (fun _ _ => rfl) (wk dc_str) (wk (d_bin op_mod op2_mod (wk (d_bin op_fdiv op2_fdiv (wk (dv 1)) (wk dc_int))) (wk dc_int)))))
    (ds_cons (ds_if (dt_cmp (op_eqD hr.units) op2_eq (nomark _) (wk (d_bin op_mod op2_mod (wk (dv 1)) (wk dc_int))) (wk dc_int))
    (ds_one (ds_ret (d_bin op_addAll op2_add (wk (d_bin op_addAll op2_add (wk (d_slice (wk (dv 0)) do_none (do_some (dv 2)))) (wk (dv 3)))) (wk (d_slice (wk (dv 0)) (do_some (dv 2)) do_none))))) ds_nil)
    (ds_cons (ds_if (dt_cmp (op_eqD hr.units) op2_eq (nomark _) (wk (d_bin op_mod op2_mod (wk (dv 1)) (wk dc_int))) (wk dc_int))
    (ds_one (ds_ret (d_bin op_addAll op2_add (wk (d_slice (wk (dv 0)) do_none (do_some (dv 2)))) (wk (d_slice (wk (dv 0)) (do_some (d_bin op_addAll op2_add (wk (dv 2)) (wk dc_int))) do_none))))) ds_nil)
    (ds_cons (ds_if (dt_cmp op_lt (op2_cmp _) (nomark _) (wk (d_bin op_mod op2_mod (wk (dv 1)) (wk dc_int))) (wk dc_int))
    (ds_one (ds_ret (d_bin op_addAll op2_add (wk (d_bin op_addAll op2_add (wk (d_slice (wk (dv 0)) do_none (do_some (dv 2)))) (wk (dv 3)))) (wk (d_slice (wk (dv 0)) (do_some (d_bin op_addAll op2_add (wk (dv 2)) (wk dc_int))) do_none))))) ds_nil)
    (ds_cons (ds_setO (i := 4) nd rfl (by first | exact Or.inl rfl | exact Or.inr rfl) (dl_split (wk (dv 0)) (wk dc_str)))
    (ds_cons (ds_set (i := 2) nd rfl (by first | exact Or.inl rfl | exact Or.inr rfl) (d_bin op_mod op2_mod (wk (d_bin op_fdiv op2_fdiv (wk (dv 1)) (wk dc_int))) (wk (d_callB call_len cal_len (by rfl) T.n_len PySem.boot_len (daw_cons (dw 4) daw_nil)))))
    (ds_cons (ds_if (dt_cmp (op_eqD hr.units) op2_eq (nomark _) (wk (d_bin op_mod op2_mod (wk (dv 1)) (wk dc_int))) (wk dc_int))
    (ds_one (ds_setO (i := 4) nd rfl (by first | exact Or.inl rfl | exact Or.inr rfl) (dl_add (wk (d_slice (dw 4) do_none (do_some (dv 2)))) (wk (d_slice (dw 4) (do_some (d_bin op_addAll op2_add (wk (dv 2)) (wk dc_int))) do_none))))) ds_nil)
    (ds_cons (ds_if (dt_cmp (op_eqD hr.units) op2_eq (nomark _) (wk (d_bin op_mod op2_mod (wk (dv 1)) (wk dc_int))) (wk dc_int))
    (ds_one (ds_setO (i := 4) nd rfl (by first | exact Or.inl rfl | exact Or.inr rfl) (dl_add (wk (d_bin op_addAll op2_add (wk (d_slice (dw 4) do_none (do_some (dv 2)))) (wk (d_slice (dw 4) (do_some (dv 2)) (do_some (d_bin op_addAll op2_add (wk (dv 2)) (wk dc_int))))))) (wk (d_slice (dw 4) (do_some (dv 2)) do_none))))) ds_nil)
    (ds_cons (ds_if (dt_cmp (op_eqD hr.units) op2_eq (nomark _) (wk (d_bin op_mod op2_mod (wk (dv 1)) (wk dc_int))) (wk dc_int))
    (ds_one (ds_setO (i := 4) nd rfl (by first | exact Or.inl rfl | exact Or.inr rfl) (dl_add (wk (d_bin op_addAll op2_add (wk (d_slice (dw 4) do_none (do_some (dv 2)))) (wk (d_rev (wk (d_slice (dw 4) (do_some (dv 2)) (do_some (d_bin op_addAll op2_add (wk (dv 2)) (wk dc_int))))))))) (wk (d_slice (dw 4) (do_some (d_bin op_addAll op2_add (wk (dv 2)) (wk dc_int))) do_none))))) ds_nil)
    (ds_cons (ds_if (dt_cmp (op_eqD hr.units) op2_eq (nomark _) (wk (d_bin op_mod op2_mod (wk (dv 1)) (wk dc_int))) (wk dc_int))
    (ds_cons (ds_set (i := 5) nd rfl (by first | exact Or.inl rfl | exact Or.inr rfl) (d_lst (da_cons dc_str (da_cons dc_str (da_cons dc_str (da_cons dc_str (da_cons dc_str (da_cons dc_str (da_cons dc_str (da_cons dc_str (da_cons dc_str (da_cons dc_str (da_cons dc_str (da_cons dc_str (da_cons dc_str (da_cons dc_str (da_cons dc_str da_nil)))))))))))))))))
    (ds_one (ds_store 4 (d_ix ix_seq op2_ix (fun _ _ => rfl) (wk (dv 5)) (wk (d_bin op_mod op2_mod (wk (d_bin op_fdiv op2_fdiv (wk (dv 1)) (wk dc_int))) (wk dc_int)))) (dv 2)))) ds_nil)
    (ds_one (ds_ret (d_join (wk dc_str) (dw 4)))))))))))))))
theorem ok_law_is_right (T : Txt K mg) : FnOk P w K mg base CX0 2 T.f_law_is_right T.d_law_is_right ["thing"] (spD K Pf.F_law_is_right) :=
  fn_data T.F_law_is_right sc_law_is_right fun cdv A outer s H E hr => have nd := sc_law_is_right.nd
    (ds_cons (ds_if (PW.pt (dt_or (dt_not (dt_val (d_isi isT_tuple (by rfl) T.n_isinstance (wk (dv 0)) (d_ty (by rfl) T.n_tuple (by decide +kernel))))) (dt_or (dt_cmp (op_neD hr.units) op2_ne (nomark _) (wk (d_callB call_len cal_len (by rfl) T.n_len PySem.boot_len (daw_cons (wk (dv 0)) daw_nil))) (wk dc_int)) (dt_or1 (dt_cmp (op_notInU (hu65 hr)) op2_notIn (by rfl) (wk (d_ix ix_seq op2_ix (fun _ _ => rfl) (wk (dv 0)) (wk dc_int))) (wk (d_tup (da_cons dc_int (da_cons dc_int (da_cons dc_int (da_cons dc_int (da_cons dc_int (da_cons dc_int (da_cons dc_int (da_cons dc_int (da_cons dc_int da_nil))))))))))))))))
    (ds_one (ds_ret dc_bl)) ds_nil)
    (ds_cons (ds_asg (dv 0) (dg_tup rfl (dgs_cons (dg_name (i := 4) nd rfl (by first | exact Or.inl rfl | exact Or.inr rfl)) (dgs_cons (dg_name (i := 5) nd rfl (by first | exact Or.inl rfl | exact Or.inr rfl)) (dgs_cons (dg_name (i := 6) nd rfl (by first | exact Or.inl rfl | exact Or.inr rfl)) dgs_nil)))))
    (ds_cons (ds_if (PW.pt (dt_or (dt_not (dt_val (d_isi isT_tuple (by rfl) T.n_isinstance (wk (dv 5)) (d_ty (by rfl) T.n_tuple (by decide +kernel))))) (dt_or (dt_cmp (op_neD hr.units) op2_ne (nomark _) (wk (d_callB call_len cal_len (by rfl) T.n_len PySem.boot_len (daw_cons (wk (dv 5)) daw_nil))) (wk dc_int)) (dt_or (dt_not (dt_val (d_isi isT_tuple (by rfl) T.n_isinstance (wk (dv 6)) (d_ty (by rfl) T.n_tuple (by decide +kernel))))) (dt_or1 (dt_cmp op_gt (op2_cmp _) (nomark _) (wk (d_callB call_len cal_len (by rfl) T.n_len PySem.boot_len (daw_cons (wk (dv 6)) daw_nil))) (wk dc_int)))))))
    (ds_one (ds_ret dc_bl)) ds_nil)
    (ds_cons (ds_for PassesOwn.never rfl (di_seq (d_bin op_addAll op2_add (wk (dv 5)) (wk (d_tup (da_cons (dv 4) da_nil))))) (dg_name (i := 1) nd rfl (by first | exact Or.inl rfl | exact Or.inr rfl))
    (ds_one (ds_if (PW.pt (dt_or (dt_not (dt_val (d_isi isT_int (by rfl) T.n_isinstance (wk (dv 1)) (d_ty (by rfl) T.n_int (by decide +kernel))))) (dt_or (dt_val (d_isi isT_bool (by rfl) T.n_isinstance (wk (dv 1)) (d_ty (by rfl) T.n_bool (by decide +kernel)))) (dt_or1 (dt_not (dt_chain op_le op_lt (op2_cmp _) (op2_cmp _) (wk dc_int) (wk (dv 1)) (wk (d_callB (cr_maxU rfl hr) cal_max (by rfl) T.n_max (by decide +kernel) (daw_cons (wk (dv 4)) (daw_cons (wk (d_bin op_addAll op2_add (wk (dv 1)) (wk dc_int))) daw_nil))))))))))
    (ds_one (ds_ret dc_bl)) ds_nil)))
    (ds_cons (ds_if (PW.pt (dt_or (dt_cmp op_ge (op2_cmp _) (nomark _) (wk (d_callB (cr_maxU rfl hr) cal_max (by rfl) T.n_max (by decide +kernel) (daw_cons (wk (dv 5)) daw_nil))) (wk (dv 4))) (dt_or1 (dt_not (dt_val (d_call (ok_law_good T) (hr.mono (by decide)) (by rfl) T.g_law_good T.F_law_good.kp (b_law_good T) pass0 (da_cons (dv 5) (da_cons (dv 4) da_nil))))))))
    (ds_one (ds_ret dc_bl)) ds_nil)
    (ds_cons (ds_set (i := 2) nd rfl (by first | exact Or.inl rfl | exact Or.inr rfl) (d_call (ok_law_points T) (hr.mono (by decide)) (by rfl) T.g_law_points T.F_law_points.kp (b_law_points T) pass0 (da_cons (dv 5) (da_cons (dv 4) da_nil))))
    (ds_cons (ds_for PassesOwn.never rfl (di_seq (dv 6)) (dg_name (i := 3) nd rfl (by first | exact Or.inl rfl | exact Or.inr rfl))
    (ds_cons (ds_if (PW.pt (dt_or (dt_not (dt_val (d_isi isT_tuple (by rfl) T.n_isinstance (wk (dv 3)) (d_ty (by rfl) T.n_tuple (by decide +kernel))))) (dt_or1 (dt_cmp (op_notInU (hu65 hr)) op2_notIn (by rfl) (wk (dv 3)) (wk (dv 2))))))
    (ds_one (ds_ret dc_bl)) ds_nil)
    (ds_one (ds_if (dt_cmp (op_neD hr.units) op2_ne (nomark _) (wk (d_lc (own := [("part", 1)]) rfl nd (di_seq (dv 3)) (blkOk_by (N := N_law_is_right) (sc := defScope s_law_is_right) (by decide +kernel)) (by decide) (fun _ _ _ _ _ => (dg_name (i := 1) nd rfl (by first | exact Or.inl rfl | exact Or.inr rfl))) (fun _ _ _ _ _ => (dts_one (dt_val (d_isi isT_bool (by rfl) T.n_isinstance (wk (dv 1)) (d_ty (by rfl) T.n_bool (by decide +kernel)))))) (fun _ _ _ _ _ => (dv 1)))) (wk (d_lst da_nil)))
    (ds_one (ds_ret dc_bl)) ds_nil))))
    (ds_one (ds_ret dc_bl)))))))))
theorem ok_law (T : Txt K mg) : FnOk P w K mg base CX0 6 T.f_law T.d_law ["script"] (spScr K Pf.F_law_k04) :=
  fn_dataS T.F_law sc_law fun cdv A outer s H E hr => have nd := sc_law.nd
    (ds_cons (ds_set (i := 1) nd rfl (by first | exact Or.inl rfl | exact Or.inr rfl) (d_ix ix_seq op2_ix (fun _ _ => rfl) (wk (d_tup (da_cons dc_int (da_cons dc_int (da_cons dc_int (da_cons dc_int (da_cons dc_int (da_cons dc_int (da_cons dc_int (da_cons dc_int (da_cons dc_int da_nil))))))))))) (wk (d_bin op_mod op2_mod (wk (d_callS (i := 0) (ok_law_mixed T) (hr.mono (by decide)) (by rfl) T.g_law_mixed T.F_law_mixed.kp (b_law_mixed T) pass0 (da_cons dc_int da_nil))) (wk dc_int)))))
    (ds_cons (ds_set (i := 2) nd rfl (by first | exact Or.inl rfl | exact Or.inr rfl) (d_call (ok_law_curve T) (hr.mono (by decide)) (by rfl) T.g_law_curve T.F_law_curve.kp (b_law_curve T) pass0 (da_cons (d_callS (i := 0) (ok_law_mixed T) (hr.mono (by decide)) (by rfl) T.g_law_mixed T.F_law_mixed.kp (b_law_mixed T) pass0 (da_cons dc_int da_nil)) (da_cons (dv 1) da_nil))))
    (ds_cons (ds_set (i := 3) nd rfl (by first | exact Or.inl rfl | exact Or.inr rfl) (d_call (ok_law_drawn_points T) (hr.mono (by decide)) (by rfl) T.g_law_drawn_points T.F_law_drawn_points.kp (b_law_drawn_points T) pass0 (da_cons (d_callS (i := 0) (ok_law_mixed T) (hr.mono (by decide)) (by rfl) T.g_law_mixed T.F_law_mixed.kp (b_law_mixed T) pass0 (da_cons dc_int da_nil)) (da_cons (d_call (ok_law_points T) (hr.mono (by decide)) (by rfl) T.g_law_points T.F_law_points.kp (b_law_points T) pass0 (da_cons (dv 2) (da_cons (dv 1) da_nil))) da_nil))))
    (ds_cons (ds_set (i := 4) nd rfl (by first | exact Or.inl rfl | exact Or.inr rfl) (d_call (ok_law_text T) (hr.mono (by decide)) (by rfl) T.g_law_text T.F_law_text.kp (b_law_text T) pass0 (da_cons (dv 1) (da_cons (dv 2) (da_cons (dv 3) da_nil)))))
    (ds_cons (ds_set (i := 5) nd rfl (by first | exact Or.inl rfl | exact Or.inr rfl) (d_callS (i := 0) (ok_law_mixed T) (hr.mono (by decide)) (by rfl) T.g_law_mixed T.F_law_mixed.kp (b_law_mixed T) pass0 (da_cons dc_int da_nil)))
    (ds_cons (ds_set (i := 6) nd rfl (by first | exact Or.inl rfl | exact Or.inr rfl) (d_call (ok_law_told T) (hr.mono (by decide)) (by rfl) T.g_law_told T.F_law_told.kp (b_law_told T) pass0 (da_cons (dv 4) da_nil)))
    (ds_cons (ds_if (dt_cmp (op_eqD hr.units) op2_eq (nomark _) (wk (d_callB call_len cal_len (by rfl) T.n_len PySem.boot_len (daw_cons (wk (dv 3)) daw_nil))) (wk dc_int))
    (ds_one (ds_ret (d_cmp op_isN op2_isN (nomark _) (wk (dv 6)) (wk dc_non)))) ds_nil)
    (ds_cons (ds_if (PW.pt (dt_or (dt_cmp (op_neD hr.units) op2_ne (nomark _) (wk (dv 6)) (wk (d_tup (da_cons (dv 1) (da_cons (dv 2) (da_cons (dv 3) da_nil)))))) (dt_or1 (dt_not (dt_val (d_call (ok_law_is_right T) (hr.mono (by decide)) (by rfl) T.g_law_is_right T.F_law_is_right.kp (b_law_is_right T) pass0 (da_cons (dv 6) da_nil)))))))
    (ds_one (ds_ret dc_bl)) ds_nil)
    (ds_cons (ds_for PassesOwn.never rfl (di_range1 (by rfl) T.n_range (da_cons (d_ix ix_seq op2_ix (fun _ _ => rfl) (wk (d_tup (da_cons dc_int (da_cons dc_int (da_cons dc_int (da_cons dc_int (da_cons dc_int (da_cons dc_int da_nil)))))))) (wk (d_bin op_mod op2_mod (wk (dv 5)) (wk dc_int)))) da_nil)) (dg_name (i := 7) nd rfl (by first | exact Or.inl rfl | exact Or.inr rfl))
    (ds_one (ds_set (i := 4) nd rfl (by first | exact Or.inl rfl | exact Or.inr rfl) (d_call (ok_law_changed T) (hr.mono (by decide)) (by rfl) T.g_law_changed T.F_law_changed.kp (b_law_changed T) pass0 (da_cons (dv 4) (da_cons (d_call (ok_law_drawn T) (hr.mono (by decide)) (by rfl) T.g_law_drawn T.F_law_drawn.kp (b_law_drawn T) pass0 (da_cons (dv 5) (da_cons (dv 7) da_nil))) da_nil))))))
    (ds_cons (ds_set (i := 6) nd rfl (by first | exact Or.inl rfl | exact Or.inr rfl) (d_call (ok_law_told T) (hr.mono (by decide)) (by rfl) T.g_law_told T.F_law_told.kp (b_law_told T) pass0 (da_cons (dv 4) da_nil)))
    (ds_one (ds_ret (dv_or (d_cmp op_isN op2_isN (nomark _) (wk (dv 6)) (wk dc_non)) (dv_one (dv_and (d_cmp (op_neD hr.units) op2_ne (nomark _) (wk (dv 6)) (wk dc_int)) (dv_and (d_call (ok_law_is_right T) (hr.mono (by decide)) (by rfl) T.g_law_is_right T.F_law_is_right.kp (b_law_is_right T) pass0 (da_cons (dv 6) da_nil)) (dv_one (d_cmp (op_eqD hr.units) op2_eq (nomark _) (wk (d_call (ok_law_text T) (hr.mono (by decide)) (by rfl) T.g_law_text T.F_law_text.kp (b_law_text T) pass0 (da_cons (d_ix ix_seq op2_ix (fun _ _ => rfl) (wk (dv 6)) (wk dc_int)) (da_cons (d_ix ix_seq op2_ix (fun _ _ => rfl) (wk (dv 6)) (wk dc_int)) (da_cons (d_ix ix_seq op2_ix (fun _ _ => rfl) (wk (dv 6)) (wk dc_int)) da_nil))))) (wk (dv 4))))))))))))))))))))
end
end Wk

-- part Lm0
set_option maxHeartbeats 1000000
namespace Cc
open PySem L2
/-! ### reading a denotation -/
section
variable {ρ : Dn} {f h l : EF} {fs : AF} {t u : TF} {A B : SF} {i : Nat} {d : Dt}
@[simp] theorem r_getV : getV i ρ = slV ρ[i]? := rfl
@[simp] theorem r_getW : getW i ρ = slW ρ[i]? := rfl
@[simp] theorem r_slV : slV (some (.val d)) = some d := rfl
@[simp] theorem r_slWv : slW (some (.val d)) = some d := rfl
@[simp] theorem r_slWo {ds : List Dt} : slW (some (.own ds)) = some (.list ds) := rfl
@[simp] theorem r_cst : cst d ρ = some d := rfl
@[simp] theorem r_e1 {g} : e1 g f ρ = (f ρ).bind g := rfl
@[simp] theorem r_e2 {g} : e2 g f h ρ = (f ρ).bind fun d => (h ρ).bind fun e => g d e := rfl
@[simp] theorem r_asB {b : Bool} : asB (some (.bool b)) = some b := rfl
@[simp] theorem r_asI {b : Int} : asI (some (.int b)) = some b := rfl
@[simp] theorem r_tB : tB' f ρ = asB (f ρ) := rfl
@[simp] theorem r_tNt : tNt t ρ = (t ρ).map (! ·) := rfl
@[simp] theorem r_tAn : tAn t u ρ = (t ρ).bind fun k => if k then u ρ else some false := rfl
@[simp] theorem r_tOr : tOrr t u ρ = (t ρ).bind fun k => if k then some true else u ρ := rfl
@[simp] theorem r_vAn : vAn f h ρ = (asB (f ρ)).bind fun k => if k then h ρ else some (.bool false) := rfl
@[simp] theorem r_vOr : vOr f h ρ = (asB (f ρ)).bind fun k => if k then some (.bool true) else h ρ := rfl
@[simp] theorem r_vNt : vNt f ρ = (asB (f ρ)).map fun k => .bool (!k) := rfl
@[simp] theorem r_vIf : vIf t f h ρ = (t ρ).bind fun k => if k then f ρ else h ρ := rfl
@[simp] theorem r_vChn {g g'} : vChn g g' f h l ρ = (f ρ).bind fun x => (h ρ).bind fun y => (asB (g x y)).bind fun k => if k then (l ρ).bind fun z => g' y z else some (.bool false) := rfl
@[simp] theorem r_aNil : aNil ρ = some [] := rfl
@[simp] theorem r_aCons : aCons f fs ρ = (f ρ).bind fun d => (fs ρ).map (d :: ·) := rfl
theorem r_mkTup : mkTup fs ρ = (fs ρ).bind fun ds => if ds.length ≤ Lim then some (.tuple ds) else none := rfl
@[simp] theorem r_mkTup0 : mkTup aNil ρ = some (.tuple []) := rfl
@[simp] theorem r_mkTup1 {a : EF} : mkTup (aCons a aNil) ρ = (a ρ).bind fun x => some (.tuple [x]) := by
  simp only [mkTup, r_aCons, r_aNil]; cases a ρ <;> rfl
@[simp] theorem r_mkTup2 {a b : EF} : mkTup (aCons a (aCons b aNil)) ρ = (a ρ).bind fun x => (b ρ).bind fun y => some (.tuple [x, y]) := by
  simp only [mkTup, r_aCons, r_aNil]; cases a ρ <;> cases b ρ <;> rfl
@[simp] theorem r_mkTup3 {a b c : EF} : mkTup (aCons a (aCons b (aCons c aNil))) ρ = (a ρ).bind fun x => (b ρ).bind fun y => (c ρ).bind fun z => some (.tuple [x, y, z]) := by
  simp only [mkTup, r_aCons, r_aNil]; cases a ρ <;> cases b ρ <;> cases c ρ <;> rfl
@[simp] theorem r_mkLst0 : mkLst aNil ρ = some (.list []) := rfl
@[simp] theorem r_mkLst1 {a : EF} : mkLst (aCons a aNil) ρ = (a ρ).bind fun x => some (.list [x]) := by
  simp only [mkLst, r_aCons, r_aNil]; cases a ρ <;> rfl
@[simp] theorem r_mkLst2 {a b : EF} : mkLst (aCons a (aCons b aNil)) ρ = (a ρ).bind fun x => (b ρ).bind fun y => some (.list [x, y]) := by
  simp only [mkLst, r_aCons, r_aNil]; cases a ρ <;> cases b ρ <;> rfl
@[simp] theorem r_callF {F} : callF F fs ρ = (fs ρ).bind F := rfl
@[simp] theorem r_lim0 : lim aNil ρ = some [] := rfl
@[simp] theorem r_lim1 {a : EF} : lim (aCons a aNil) ρ = (a ρ).bind fun x => some [x] := by
  simp only [lim, r_aCons, r_aNil]; cases a ρ <;> rfl
@[simp] theorem r_sNil : sNil ρ = some (.nx ρ) := rfl
theorem r_sSeq : sSeq A B ρ = match A ρ with | some (.nx ρ') => B ρ' | r => r := rfl
theorem seq_nx {ρ' : Dn} (h : A ρ = some (.nx ρ')) : sSeq A B ρ = B ρ' := by rw [r_sSeq, h]
theorem seq_rt (h : A ρ = some (.rt d)) : sSeq A B ρ = some (.rt d) := by rw [r_sSeq, h]
@[simp] theorem r_sIf : sIf t A B ρ = (t ρ).bind fun k => if k then A ρ else B ρ := rfl
@[simp] theorem r_sRet : sRet f ρ = (f ρ).map .rt := rfl
@[simp] theorem r_sNever : sNever ρ = none := rfl
@[simp] theorem r_sSet : sSet i f ρ = (f ρ).map fun d => .nx (ρ.set i (.val d)) := rfl
@[simp] theorem r_sSetO : sSetO i fs ρ = (fs ρ).map fun ds => .nx (ρ.set i (.own ds)) := rfl
theorem r_sApp : sApp i f ρ = match ρ[i]? with
  | some (.own ds) => (f ρ).bind fun d => if ds.length < 100000 then some (.nx (ρ.set i (.own (ds ++ [d])))) else none
  | _ => none := rfl
theorem r_sExt : sExt i f ρ = match ρ[i]? with
  | some (.own ds) => ((f ρ).bind asL).bind fun es => if ds.length + es.length < 100000 then some (.nx (ρ.set i (.own (ds ++ es)))) else none
  | _ => none := rfl
@[simp] theorem r_asL {ds : List Dt} : asL (.list ds) = some ds := rfl
theorem r_sRetO : sRetO i ρ = match ρ[i]? with
  | some (.own ds) => some (.rt (.list ds))
  | _ => none := rfl
@[simp] theorem r_sAsg {g : GF} : sAsg g f ρ = (f ρ).bind fun d => (g d ρ).map .nx := rfl
@[simp] theorem r_gSet : gSet i d ρ = some (ρ.set i (.val d)) := rfl
@[simp] theorem r_gTup {is} {ds : List Dt} : gTupD is (.tuple ds) ρ = gSets is ds ρ := rfl
@[simp] theorem r_gSets0 : gSets [] [] ρ = some ρ := rfl
@[simp] theorem r_gSets1 {is} {ds : List Dt} : gSets (i :: is) (d :: ds) ρ = gSets is ds (ρ.set i (.val d)) := rfl
@[simp] theorem r_sFor {it g} : sFor it g B ρ = (it ρ).bind fun xs => forL g B xs ρ := rfl
@[simp] theorem r_iF {g} : iF g fs ρ = (fs ρ).bind g := rfl
@[simp] theorem r_iSeq : iSeq f ρ = itemsD (f ρ) := rfl
@[simp] theorem r_itemsL {ds : List Dt} : itemsD (some (.list ds)) = some ds := rfl
@[simp] theorem r_itemsT {ds : List Dt} : itemsD (some (.tuple ds)) = some ds := rfl
@[simp] theorem r_lstF : lstF fs ρ = (fs ρ).map .list := rfl
@[simp] theorem r_tYes : tYesD ρ = some true := rfl
@[simp] theorem r_scrLen : scrLen i ρ = (asScr ρ[i]?).map fun ns => .int ns.length := rfl
@[simp] theorem r_scrAt : scrAt i h ρ = (asScr ρ[i]?).bind fun ns => (asI (h ρ)).bind fun j => (atI ns j).map .int := rfl
@[simp] theorem r_asScr {ns : List Int} : asScr (some (.scr ns)) = some ns := rfl
@[simp] theorem r_callS {F} : callS i F fs ρ = (asScr ρ[i]?).bind fun ns => (fs ρ).bind fun ds => F ns ds := rfl
@[simp] theorem r_methF {g} : methF g f fs ρ = (f ρ).bind fun d => (fs ρ).bind fun ds => g d ds := rfl
@[simp] theorem r_oNo : oNo ρ = some none := rfl
@[simp] theorem r_oSo : oSo f ρ = (asI (f ρ)).map some := rfl
@[simp] theorem r_slcF {l u : OF} : slcF f l u ρ = (f ρ).bind fun d => (l ρ).bind fun lo => (u ρ).bind fun hi => sliceD d lo hi := rfl
theorem r_lcF {it vs g t e} : lcF it vs g t e ρ = (it ρ).bind fun xs => if xs.length ≤ 100000 then lcL g t e (wipeD ρ vs) xs else none := rfl

@[simp] theorem nth0 {α : Type} {a : α} {as : List α} : (a :: as)[0]? = some a := rfl
@[simp] theorem nthS {α : Type} {a : α} {as : List α} {n : Nat} : (a :: as)[n + 1]? = as[n]? := rfl
theorem run_rt {N ps : List Str} {ds : List Dt} (hl : ds.length = ps.length) (h : B (startD N ds) = some (.rt d)) : runD N ps B ds = some d := by
  unfold runD; rw [if_pos hl, h]
theorem runS_rt {N ps : List Str} {ns : List Int} {ds : List Dt} (hl : ds.length = ps.length) (h : B (.scr ns :: startD N.tail ds) = some (.rt d)) : runS N ps B ns ds = some d := by
  unfold runS; rw [if_pos hl, h]
/-! ### operations on written data -/
@[simp] theorem o_add {i j : Int} : addD (.int i) (.int j) = some (.int (i + j)) := rfl
@[simp] theorem o_sub {i j : Int} : subD (.int i) (.int j) = some (.int (i - j)) := rfl
@[simp] theorem o_neg {i : Int} : negD (.int i) = some (.int (-i)) := rfl
@[simp] theorem o_mul {i j : Int} (h : i.natAbs < 18446744073709551616 ∨ j.natAbs < 18446744073709551616) : mulD (.int i) (.int j) = some (.int (i * j)) := by
  refine if_pos ?_
  unfold mulOk
  rw [Bool.or_eq_true, Bool.or_eq_true, decide_eq_true_eq, decide_eq_true_eq]
  exact .inl h
@[simp] theorem o_mod {i j : Int} (h : 0 < j) : modD (.int i) (.int j) = some (.int (i % j)) := if_pos h
@[simp] theorem o_fdiv {i j : Int} (h : 0 < j ∧ j < 1073741824) : fdivD (.int i) (.int j) = some (.int (i / j)) := if_pos h
@[simp] theorem o_lt {i j : Int} : cmpD (fun i j => decide (i < j)) (.int i) (.int j) = some (.bool (decide (i < j))) := rfl
@[simp] theorem o_le {i j : Int} : cmpD (fun i j => decide (i ≤ j)) (.int i) (.int j) = some (.bool (decide (i ≤ j))) := rfl
@[simp] theorem o_gt {i j : Int} : cmpD (fun i j => decide (j < i)) (.int i) (.int j) = some (.bool (decide (j < i))) := rfl
@[simp] theorem o_ge {i j : Int} : cmpD (fun i j => decide (j ≤ i)) (.int i) (.int j) = some (.bool (decide (j ≤ i))) := rfl
theorem ibeq {i j : Int} : (i == j) = decide (i = j) := Bool.beq_eq_decide_eq i j
theorem sh_int (i : Int) : SeqAt.shaped (.int i) = true := by simp [SeqAt.shaped, PyData.canLay0, PyData.depth]
theorem sh_non : SeqAt.shaped .none = true := by simp [SeqAt.shaped, PyData.canLay0, PyData.depth]
theorem sh_bool (b : Bool) : SeqAt.shaped (.bool b) = true := by simp [SeqAt.shaped, PyData.canLay0, PyData.depth]
@[simp] theorem o_eqI {i j : Int} : eqD (.int i) (.int j) = some (.bool (decide (i = j))) := by
  unfold eqD; rw [sh_int, sh_int, Bool.and_self, if_pos rfl, PyData.eqv, ibeq]
@[simp] theorem o_neI {i j : Int} : neD (.int i) (.int j) = some (.bool (!decide (i = j))) := by
  unfold neD; rw [sh_int, sh_int, Bool.and_self, if_pos rfl, PyData.eqv, ibeq]
@[simp] theorem o_isN {d : Dt} : isND d .none = some (.bool (isNo d)) := rfl
@[simp] theorem o_notN {d : Dt} : notND d .none = some (.bool (!isNo d)) := rfl
@[simp] theorem o_noI {i : Int} : isNo (.int i) = false := rfl
@[simp] theorem o_noN : isNo .none = true := rfl
@[simp] theorem o_isB {a b : Bool} : isBD (.bool a) (.bool b) = some (.bool (decide (a = b))) := rfl
@[simp] theorem o_notB {a b : Bool} : notBD (.bool a) (.bool b) = some (.bool (!decide (a = b))) := rfl
@[simp] theorem o_ixL {ds : List Dt} {i : Int} : ixD (.list ds) (.int i) = atI ds i := rfl
@[simp] theorem o_ixT {ds : List Dt} {i : Int} : ixD (.tuple ds) (.int i) = atI ds i := rfl
@[simp] theorem at0 {α : Type} {x : α} {xs : List α} : atI (x :: xs) 0 = some x := by simp [atI, ixN]
@[simp] theorem at1 {α : Type} {x y : α} {xs : List α} : atI (x :: y :: xs) 1 = some y := by
  simp only [atI, ixN]; rw [if_pos (by omega), if_pos (by simp; omega)]; rfl
@[simp] theorem at2 {α : Type} {x y z : α} {xs : List α} : atI (x :: y :: z :: xs) 2 = some z := by
  simp only [atI, ixN]; rw [if_pos (by omega), if_pos (by simp; omega)]; rfl
@[simp] theorem at3 {α : Type} {x y z v : α} {xs : List α} : atI (x :: y :: z :: v :: xs) 3 = some v := by
  simp only [atI, ixN]; rw [if_pos (by omega), if_pos (by simp; omega)]; rfl
@[simp] theorem o_lenL {ds : List Dt} : lenD [.list ds] = some (.int ds.length) := rfl
@[simp] theorem o_lenT {ds : List Dt} : lenD [.tuple ds] = some (.int ds.length) := rfl
@[simp] theorem o_tupL {ds : List Dt} : tupleD [.list ds] = some (.tuple ds) := rfl
@[simp] theorem o_tupT {ds : List Dt} : tupleD [.tuple ds] = some (.tuple ds) := rfl
@[simp] theorem o_intB {b : Bool} : intD [.bool b] = some (.int (if b then 1 else 0)) := rfl
@[simp] theorem o_rng1 {n : Int} (h : 0 ≤ n ∧ n < 4611686018427387904) : rng1D [.int n] = some ((List.range n.toNat).map fun i => .int (i : Nat)) := by
  refine (if_pos (by omega)).trans ?_; congr 1; exact List.map_congr_left fun i _ => by rw [Int.zero_add]
@[simp] theorem o_rng2 {m n : Int} (h : 0 ≤ m ∧ m < 4611686018427387904 ∧ 0 ≤ n ∧ n < 4611686018427387904) : rng2D [.int m, .int n] = some ((List.range (n - m).toNat).map fun i => .int (m + (i : Nat))) := by
  exact if_pos (by omega)
end

/-! ### loops -/
theorem forL_ind {α : Type} {f : α → Dt} {g : GF} {B : SF} : ∀ (xs : List α) (I : Nat → Dn → Prop) {ρ : Dn}, I 0 ρ →
    (∀ (i : Nat) (x : α) (ρ : Dn), xs[i]? = some x → I i ρ → ∃ ρ1 ρ2, g (f x) ρ = some ρ1 ∧ B ρ1 = some (.nx ρ2) ∧ I (i + 1) ρ2) → ∃ ρ', forL g B (xs.map f) ρ = some (.nx ρ') ∧ I xs.length ρ'
  | [], I, ρ, h0, _ => ⟨ρ, rfl, h0⟩
  | x :: xs, I, ρ, h0, hs => by
    obtain ⟨ρ1, ρ2, h1, h2, h3⟩ := hs 0 x ρ rfl h0
    obtain ⟨ρ', h4, h5⟩ := forL_ind xs (fun i => I (i + 1)) h3 fun i y ρ hy hi => hs (i + 1) y ρ (by simpa using hy) hi
    refine ⟨ρ', ?_, h5⟩
    show (g (f x) ρ).bind (fun ρ1 => match B ρ1 with | some (.nx ρ2) => forL g B (xs.map f) ρ2 | r => r) = _
    rw [h1]
    show (match B ρ1 with | some (.nx ρ2) => forL g B (xs.map f) ρ2 | r => r) = _
    rw [h2]
    exact h4
/-- each turn goes on, or hands back what R says -/
theorem forL_or {α : Type} {f : α → Dt} {g : GF} {B : SF} (I : Dn → Prop) (R : Dt → Prop) : ∀ (xs : List α) {ρ : Dn}, I ρ →
    (∀ (x : α) (ρ : Dn), x ∈ xs → I ρ → ∃ ρ1, g (f x) ρ = some ρ1 ∧ ((∃ ρ2, B ρ1 = some (.nx ρ2) ∧ I ρ2) ∨ ∃ d, B ρ1 = some (.rt d) ∧ R d)) → (∃ ρ', forL g B (xs.map f) ρ = some (.nx ρ') ∧ I ρ') ∨ ∃ d, forL g B (xs.map f) ρ = some (.rt d) ∧ R d
  | [], ρ, h0, _ => .inl ⟨ρ, rfl, h0⟩
  | x :: xs, ρ, h0, hs => by
    obtain ⟨ρ1, h1, h2⟩ := hs x ρ List.mem_cons_self h0
    have e : forL g B ((x :: xs).map f) ρ = match B ρ1 with | some (.nx ρ2) => forL g B (xs.map f) ρ2 | r => r := by
      show (g (f x) ρ).bind (fun ρ1 => match B ρ1 with | some (.nx ρ2) => forL g B (xs.map f) ρ2 | r => r) = _
      rw [h1]; rfl
    rcases h2 with ⟨ρ2, h3, h4⟩ | ⟨d, h3, h4⟩
    · rw [e, h3]
      exact forL_or I R xs h4 fun y ρ hy hi => hs y ρ (List.mem_cons_of_mem _ hy) hi
    · rw [e, h3]
      exact .inr ⟨d, rfl, h4⟩
/-- a comprehension -/
theorem lcL_map {α : Type} {f : α → Dt} {g : GF} {t : TF} {e : EF} {ρ : Dn} (v : α → Dt) : ∀ (xs : List α), (∀ x ∈ xs, ∃ ρ1, g (f x) ρ = some ρ1 ∧ t ρ1 = some true ∧ e ρ1 = some (v x)) → lcL g t e ρ (xs.map f) = some (xs.map v)
  | [], _ => rfl
  | x :: xs, h => by
    obtain ⟨ρ1, h1, h2, h3⟩ := h x List.mem_cons_self
    have ih := lcL_map v xs fun y hy => h y (List.mem_cons_of_mem _ hy)
    show (g (f x) ρ).bind (fun ρ1 => (t ρ1).bind fun b => if b then (e ρ1).bind fun d => (lcL g t e ρ (xs.map f)).map (d :: ·) else lcL g t e ρ (xs.map f)) = _
    rw [h1, ih]
    show (t ρ1).bind (fun b => if b then (e ρ1).bind fun d => some (d :: xs.map v) else some (xs.map v)) = _
    rw [h2]
    show (if true = true then (e ρ1).bind fun d => some (d :: xs.map v) else some (xs.map v)) = _
    rw [if_pos rfl, h3]
    rfl
theorem lcL_filter {α : Type} {f : α → Dt} {g : GF} {t : TF} {e : EF} {ρ : Dn} (p : α → Bool) (v : α → Dt) : ∀ (xs : List α), (∀ x ∈ xs, ∃ ρ1, g (f x) ρ = some ρ1 ∧ t ρ1 = some (p x) ∧ (p x = true → e ρ1 = some (v x))) → lcL g t e ρ (xs.map f) = some ((xs.filter p).map v)
  | [], _ => rfl
  | x :: xs, h => by
    obtain ⟨ρ1, h1, h2, h3⟩ := h x List.mem_cons_self
    have ih := lcL_filter p v xs fun y hy => h y (List.mem_cons_of_mem _ hy)
    show (g (f x) ρ).bind (fun ρ1 => (t ρ1).bind fun b => if b then (e ρ1).bind fun d => (lcL g t e ρ (xs.map f)).map (d :: ·) else lcL g t e ρ (xs.map f)) = _
    rw [h1, ih]
    show (t ρ1).bind (fun b => if b then (e ρ1).bind fun d => some (d :: (xs.filter p).map v) else some ((xs.filter p).map v)) = _
    rw [h2]
    show (if p x = true then (e ρ1).bind fun d => some (d :: (xs.filter p).map v) else some ((xs.filter p).map v)) = _
    cases hp : p x with
    | true => rw [if_pos rfl, h3 hp, List.filter_cons, hp]; rfl
    | false => rw [if_neg Bool.false_ne_true, List.filter_cons, hp]; rfl
end Cc
namespace Cc
theorem seq_step {A B : SF} {ρ : Dn} {P : Dn → Prop} {R : Option Res → Prop} (h : ∃ ρ', A ρ = some (.nx ρ') ∧ P ρ') (k : ∀ ρ', P ρ' → R (B ρ')) : R (sSeq A B ρ) := by
  obtain ⟨ρ', h1, h2⟩ := h
  rw [seq_nx h1]
  exact k ρ' h2
end Cc

-- part Lm1
set_option maxHeartbeats 1000000
namespace Pf
open PySem Cc L2
/-! ### the drawn numbers -/
def cell (ns : List Int) (k : Int) : Int := if k < ns.length then (atI ns k).getD 0 else 0
def mixed (ns : List Int) (k : Int) : Int :=
  let drawn := (cell ns k + 7919 * k + 1) * 48271 % 2147483647
  (drawn * drawn + 7 * drawn + k) % 2147483629
def drawn (number k : Int) : Int :=
  let d := (number + 104729 * k + 17) * 69621 % 2147483647
  (d * d + 3 * d + k) % 2147483629
theorem mixed_b (ns : List Int) (k : Int) : 0 ≤ mixed ns k ∧ mixed ns k < 2147483629 := by
  unfold mixed
  exact ⟨Int.emod_nonneg _ (by decide), Int.emod_lt_of_pos _ (by decide)⟩
theorem drawn_b (n k : Int) : 0 ≤ drawn n k ∧ drawn n k < 2147483629 := by
  unfold drawn
  exact ⟨Int.emod_nonneg _ (by decide), Int.emod_lt_of_pos _ (by decide)⟩
theorem F_cell {ns : List Int} {k : Int} (h : 0 ≤ k) : F_law_cell_at ns [.int k] = some (.int (cell ns k)) := by
  refine runS_rt rfl ?_
  show B_law_cell_at [.scr ns, .val (.int k)] = _
  by_cases hk : k < ns.length
  · have : ∃ v, atI ns k = some v := by
      unfold atI ixN
      rw [if_pos h, if_pos hk]
      exact ⟨ns[k.toNat]'(by omega), List.getElem?_eq_getElem _⟩
    obtain ⟨v, hv⟩ := this
    simp [B_law_cell_at, r_sSeq, nth0, nthS, hk, cell, hv]
  · simp [B_law_cell_at, r_sSeq, nth0, nthS, hk, cell]
theorem F_mixed {ns : List Int} {k : Int} (h : 0 ≤ k) (h2 : k < 1000) : F_law_mixed ns [.int k] = some (.int (mixed ns k)) := by
  refine runS_rt rfl ?_
  show B_law_mixed [.scr ns, .val (.int k), .unk] = _
  have hd : ∀ x : Int, 0 ≤ x % 2147483647 ∧ x % 2147483647 < 2147483647 := fun x => ⟨Int.emod_nonneg _ (by decide), Int.emod_lt_of_pos _ (by decide)⟩
  have hd1 := hd ((cell ns k + 7919 * k + 1) * 48271)
  simp (disch := omega) [B_law_mixed, r_sSeq, nth0, nthS, F_cell h, o_mul, o_mod, mixed]
theorem F_drawn {n k : Int} : F_law_drawn [.int n, .int k] = some (.int (drawn n k)) := by
  refine run_rt rfl ?_
  show B_law_drawn [.val (.int n), .val (.int k), .unk] = _
  have hd : ∀ x : Int, 0 ≤ x % 2147483647 ∧ x % 2147483647 < 2147483647 := fun x => ⟨Int.emod_nonneg _ (by decide), Int.emod_lt_of_pos _ (by decide)⟩
  have hd1 := hd ((n + 104729 * k + 17) * 69621)
  simp (disch := omega) [B_law_drawn, r_sSeq, nth0, nthS, o_mul, o_mod, drawn]
/-! ### curves -/
def goodM (a b p : Int) : Bool := !decide ((4 * a * a * a + 27 * b * b) % p = 0)
theorem F_good {a b p : Int} (ha : a.natAbs < 1000000) (hb : b.natAbs < 1000000) (hp : 0 < p) : F_law_good [.tuple [.int a, .int b], .int p] = some (.bool (goodM a b p)) := by
  refine run_rt rfl ?_
  show B_law_good [.val (.tuple [.int a, .int b]), .val (.int p), .unk, .unk] = _
  simp (disch := omega) [B_law_good, r_sSeq, nth0, nthS, o_mul, o_mod, goodM]
end Pf

-- part Lm2
set_option maxHeartbeats 1000000
namespace Pf
open PySem Cc L2
def PR : List Int := [5, 7, 11, 13, 17, 19, 23, 29, 31]
theorem pr_b {p : Int} (h : p ∈ PR) : 5 ≤ p ∧ p ≤ 31 := by
  have : ∀ q ∈ PR, 5 ≤ q ∧ q ≤ 31 := by decide
  exact this p h
/-- a curve of a clock -/
structure Cv (p a b : Int) : Prop where
  pm : p ∈ PR
  a0 : 0 ≤ a
  a1 : a < p
  b0 : 0 ≤ b
  b1 : b < p
  gd : goodM a b p = true
theorem Cv.p0 {p a b : Int} (c : Cv p a b) : 5 ≤ p := (pr_b c.pm).1
theorem Cv.p1 {p a b : Int} (c : Cv p a b) : p ≤ 31 := (pr_b c.pm).2
theorem md (x p : Int) (h : 0 < p) : 0 ≤ x % p ∧ x % p < p := ⟨Int.emod_nonneg _ (by omega), Int.emod_lt_of_pos _ h⟩
abbrev vI (i : Int) : Sl := .val (.int i)
abbrev vP (i j : Int) : Sl := .val (.tuple [.int i, .int j])
/-- the pair so far lies in the clock -/
def CI (n p k : Int) (ρ : Dn) : Prop := ∃ c0 c1 s3 s5 s6, ρ = [vI n, vI p, vI k, s3, vP c0 c1, s5, s6] ∧ 0 ≤ c0 ∧ c0 < p ∧ 0 ≤ c1 ∧ c1 < p
def CR (n p : Int) (o : Option Res) : Prop := (∃ ρ2, o = some (.nx ρ2) ∧ ∃ s2 s3 s4 s5 s6, ρ2 = [vI n, vI p, s2, s3, s4, s5, s6]) ∨ ∃ d, o = some (.rt d) ∧ ∃ a b, d = .tuple [.int a, .int b] ∧ Cv p a b
theorem curve_turn {n p : Int} (hp : p ∈ PR) (k : Int) (s3 s4 s5 s6 : Sl) : CR n p (L_law_curve_1 [vI n, vI p, vI k, s3, s4, s5, s6]) := by
  obtain ⟨p0, p1⟩ := pr_b hp
  unfold L_law_curve_1
  refine seq_step (P := fun ρ => ρ = [vI n, vI p, vI k, vI (drawn n k), s4, s5, s6]) (R := CR n p) ⟨_, by simp [F_drawn], rfl⟩ ?_
  rintro _ rfl
  refine seq_step (P := CI n p k) (R := CR n p) ⟨_, by simp (disch := omega), drawn n k / 4 % p, drawn n k / 256 % p, vI (drawn n k), s5, s6, rfl, (md _ _ (by omega)).1, (md _ _ (by omega)).2, (md _ _ (by omega)).1, (md _ _ (by omega)).2⟩ ?_
  rintro _ ⟨c0, c1, s3, s5, s6, rfl, h0, h1, h2, h3⟩
  refine seq_step (P := CI n p k) (R := CR n p) ?_ ?_
  · by_cases h : n % 6 = 0
    · exact ⟨_, by simp (disch := omega) [h], 0, c1, s3, s5, s6, rfl, by omega, by omega, h2, h3⟩
    · exact ⟨_, by simp (disch := omega) [h], c0, c1, s3, s5, s6, rfl, h0, h1, h2, h3⟩
  rintro _ ⟨c0, c1, s3, s5, s6, rfl, h0, h1, h2, h3⟩
  refine seq_step (P := CI n p k) (R := CR n p) ?_ ?_
  · by_cases h : n % 6 = 1
    · exact ⟨_, by simp (disch := omega) [h], c0, 0, s3, s5, s6, rfl, h0, h1, by omega, by omega⟩
    · exact ⟨_, by simp (disch := omega) [h], c0, c1, s3, s5, s6, rfl, h0, h1, h2, h3⟩
  rintro _ ⟨c0, c1, s3, s5, s6, rfl, h0, h1, h2, h3⟩
  refine seq_step (P := CI n p k) (R := CR n p) ?_ ?_
  · by_cases h : n % 6 = 2
    · have q := md (-c0 - c1) p (by omega)
      exact ⟨_, by simp (disch := omega) [r_sSeq, h], (c0 * c1 + (-c0 - c1) % p * (c0 + c1)) % p, -c0 * c1 * ((-c0 - c1) % p) % p, s3, vI ((-c0 - c1) % p), vI (c0 * c1 + (-c0 - c1) % p * (c0 + c1)), rfl, (md _ _ (by omega)).1, (md _ _ (by omega)).2, (md _ _ (by omega)).1, (md _ _ (by omega)).2⟩
    · exact ⟨_, by simp (disch := omega) [h], c0, c1, s3, s5, s6, rfl, h0, h1, h2, h3⟩
  rintro _ ⟨c0, c1, s3, s5, s6, rfl, h0, h1, h2, h3⟩
  cases hg : goodM c0 c1 p with
  | false => exact .inl ⟨[vI n, vI p, vI k, s3, vP c0 c1, s5, s6], by simp [F_good (a := c0) (b := c1) (p := p) (by omega) (by omega) (by omega), hg], _, _, _, _, _, rfl⟩
  | true => exact .inr ⟨.tuple [.int c0, .int c1], by simp [F_good (a := c0) (b := c1) (p := p) (by omega) (by omega) (by omega), hg], c0, c1, rfl, hp, h0, h1, h2, h3, hg⟩
theorem F_curve {p : Int} (n : Int) (hp : p ∈ PR) : ∃ a b, F_law_curve [.int n, .int p] = some (.tuple [.int a, .int b]) ∧ Cv p a b := by
  obtain ⟨p0, p1⟩ := pr_b hp
  have loop := forL_or (f := fun i : Nat => PyData.int (i : Nat)) (g := gSet 2) (B := L_law_curve_1)
    (fun ρ => ∃ s2 s3 s4 s5 s6, ρ = [vI n, vI p, s2, s3, s4, s5, s6]) (fun d => ∃ a b, d = .tuple [.int a, .int b] ∧ Cv p a b) (List.range 40) (ρ := [vI n, vI p, .unk, .unk, .unk, .unk, .unk]) ⟨_, _, _, _, _, rfl⟩
    (by
      rintro k _ _ ⟨s2, s3, s4, s5, s6, rfl⟩
      exact ⟨_, rfl, curve_turn hp _ s3 s4 s5 s6⟩)
  have e : B_law_curve [vI n, vI p, .unk, .unk, .unk, .unk, .unk] = (match forL (gSet 2) L_law_curve_1 ((List.range 40).map fun i => PyData.int (i : Nat)) [vI n, vI p, .unk, .unk, .unk, .unk, .unk] with
      | some (.nx ρ') => (sRet (mkTup (aCons (cst (.int 1)) (aCons (cst (.int 0)) aNil)))) ρ'
      | r => r) := by
    unfold B_law_curve
    simp only [r_sSeq, r_sFor, r_iF, r_aCons, r_cst, r_aNil, Option.bind_some, Option.map_some]
    rw [o_rng1 (by omega)]
    rfl
  rcases loop with ⟨ρ', h1, s2, s3, s4, s5, s6, rfl⟩ | ⟨d, h1, a, b, rfl, hc⟩
  · refine ⟨1, 0, run_rt rfl (e.trans (by rw [h1]; rfl)), hp, by omega, by omega, by omega, by omega, ?_⟩
    have : ∀ q ∈ PR, goodM 1 0 q = true := by decide +kernel
    exact this p hp
  · exact ⟨a, b, run_rt rfl (e.trans (by rw [h1])), hc⟩
end Pf

-- part Lm3
set_option maxHeartbeats 1000000
namespace Cc
open PySem L2
/-! ### equality of tuples of ints, of lists of them -/
theorem lay_ints : ∀ ns : List Int, PyData.canLayAll0 (ns.map .int) = true
  | [] => by simp [PyData.canLayAll0]
  | n :: ns => by simp [PyData.canLayAll0, PyData.canLay0, lay_ints ns]
theorem dep_ints : ∀ ns : List Int, PyData.depthAll (ns.map .int) = 0
  | [] => by simp [PyData.depthAll]
  | n :: ns => by simp [PyData.depthAll, PyData.depth, dep_ints ns]
theorem lay_tups : ∀ ts : List (List Int), PyData.canLayAll0 (ts.map tupI) = true
  | [] => by simp [PyData.canLayAll0]
  | t :: ts => by
    have h : (tupI t).canLay0 = true := by simp [tupI, PyData.canLay0, lay_ints]
    simp [PyData.canLayAll0, h, lay_tups ts]
theorem dep_tups : ∀ ts : List (List Int), PyData.depthAll (ts.map tupI) ≤ 1
  | [] => by simp [PyData.depthAll]
  | t :: ts => by
    have h : (tupI t).depth = 1 := by simp [tupI, PyData.depth, dep_ints]
    have := dep_tups ts
    simp [PyData.depthAll, h]; omega
theorem sh_of {d : Dt} (h : d.canLay0 = true) (h2 : d.depth ≤ 64) : SeqAt.shaped d = true := by
  unfold SeqAt.shaped; rw [h, Bool.true_and]; exact decide_eq_true h2
theorem sh_tupI (t : List Int) : SeqAt.shaped (tupI t) = true := sh_of (by simp [tupI, PyData.canLay0, lay_ints]) (by simp [tupI, PyData.depth, dep_ints])
theorem sh_listI (t : List Int) : SeqAt.shaped (.list (t.map .int)) = true := sh_of (by simp [PyData.canLay0, lay_ints]) (by simp [PyData.depth, dep_ints])
theorem sh_listT (t : List (List Int)) : SeqAt.shaped (.list (t.map tupI)) = true := sh_of (by simp [PyData.canLay0, lay_tups]) (by have := dep_tups t; simp [PyData.depth]; omega)
theorem sh_tupT (t : List (List Int)) : SeqAt.shaped (.tuple (t.map tupI)) = true := sh_of (by simp [PyData.canLay0, lay_tups]) (by have := dep_tups t; simp [PyData.depth]; omega)
theorem sh_nil : SeqAt.shaped (.list []) = true := sh_listI []
theorem eqvAll_ints : ∀ ns ms : List Int, PyData.eqvAll (ns.map .int) (ms.map .int) = decide (ns = ms)
  | [], [] => by simp [PyData.eqvAll]
  | [], _ :: _ => by simp [PyData.eqvAll]
  | _ :: _, [] => by simp [PyData.eqvAll]
  | n :: ns, m :: ms => by
    simp only [List.map_cons, PyData.eqvAll, PyData.eqv, eqvAll_ints ns ms, ibeq]
    by_cases h1 : n = m <;> by_cases h2 : ns = ms <;> simp [h1, h2]
theorem eqv_tupI (s t : List Int) : PyData.eqv (tupI s) (tupI t) = decide (s = t) := by
  unfold tupI; rw [PyData.eqv, eqvAll_ints]
theorem eqvAll_tups : ∀ ns ms : List (List Int), PyData.eqvAll (ns.map tupI) (ms.map tupI) = decide (ns = ms)
  | [], [] => by simp [PyData.eqvAll]
  | [], _ :: _ => by simp [PyData.eqvAll]
  | _ :: _, [] => by simp [PyData.eqvAll]
  | n :: ns, m :: ms => by
    simp only [List.map_cons, PyData.eqvAll, eqv_tupI, eqvAll_tups ns ms]
    by_cases h1 : n = m <;> by_cases h2 : ns = ms <;> simp [h1, h2]
@[simp] theorem o_eqT {s t : List Int} : eqD (tupI s) (tupI t) = some (.bool (decide (s = t))) := by
  unfold eqD; rw [sh_tupI, sh_tupI, Bool.and_self, if_pos rfl, eqv_tupI]
@[simp] theorem o_neT {s t : List Int} : neD (tupI s) (tupI t) = some (.bool (!decide (s = t))) := by
  unfold neD; rw [sh_tupI, sh_tupI, Bool.and_self, if_pos rfl, eqv_tupI]
@[simp] theorem o_eqT0 {s : List Int} : eqD (tupI s) (.tuple []) = some (.bool (decide (s = []))) := o_eqT (t := [])
@[simp] theorem o_neT0 {s : List Int} : neD (tupI s) (.tuple []) = some (.bool (!decide (s = []))) := o_neT (t := [])
@[simp] theorem o_eqTT {s t : List (List Int)} : eqD (.tuple (s.map tupI)) (.tuple (t.map tupI)) = some (.bool (decide (s = t))) := by
  unfold eqD; rw [sh_tupT, sh_tupT, Bool.and_self, if_pos rfl, PyData.eqv, eqvAll_tups]
@[simp] theorem o_neTT {s t : List (List Int)} : neD (.tuple (s.map tupI)) (.tuple (t.map tupI)) = some (.bool (!decide (s = t))) := by
  unfold neD; rw [sh_tupT, sh_tupT, Bool.and_self, if_pos rfl, PyData.eqv, eqvAll_tups]
@[simp] theorem o_eqLT {s t : List (List Int)} : eqD (.list (s.map tupI)) (.list (t.map tupI)) = some (.bool (decide (s = t))) := by
  unfold eqD; rw [sh_listT, sh_listT, Bool.and_self, if_pos rfl, PyData.eqv, eqvAll_tups]
@[simp] theorem o_neLT {s t : List (List Int)} : neD (.list (s.map tupI)) (.list (t.map tupI)) = some (.bool (!decide (s = t))) := by
  unfold neD; rw [sh_listT, sh_listT, Bool.and_self, if_pos rfl, PyData.eqv, eqvAll_tups]
@[simp] theorem o_neL0 {s : List (List Int)} : neD (.list (s.map tupI)) (.list []) = some (.bool (!decide (s = []))) := o_neLT (t := [])
@[simp] theorem o_neLI0 {s : List Int} : neD (.list (s.map .int)) (.list []) = some (.bool (!decide (s = []))) := by
  unfold neD; rw [sh_listI, sh_nil, Bool.and_self, if_pos rfl, PyData.eqv]
  cases s <;> simp [PyData.eqvAll]
@[simp] theorem o_ne00 : neD (.list []) (.list []) = some (.bool false) := o_neLI0 (s := [])
@[simp] theorem o_eq00 : eqD (.tuple []) (.tuple []) = some (.bool true) := o_eqT (s := []) (t := [])
theorem tupI2 (x y : Int) : PyData.tuple [.int x, .int y] = tupI [x, y] := rfl
theorem tupI0 : PyData.tuple [] = tupI [] := rfl
end Cc
namespace Pf
open PySem Cc L2
/-! ### points -/
def rng (p : Int) : List Int := (List.range p.toNat).map Int.ofNat
theorem mem_rng {p x : Int} : x ∈ rng p ↔ 0 ≤ x ∧ x < p := by
  unfold rng
  rw [List.mem_map]
  constructor
  · rintro ⟨i, hi, rfl⟩
    have := List.mem_range.mp hi
    show 0 ≤ (i : Int) ∧ (i : Int) < p
    omega
  · rintro ⟨h0, h1⟩
    exact ⟨x.toNat, List.mem_range.mpr (by omega), Int.toNat_of_nonneg h0⟩
def hgt (a b p x : Int) : Int := (x * x * x + a * x + b) % p
def rowM (a b p x : Int) : List (List Int) := ((rng p).filter fun y => decide (y * y % p = hgt a b p x)).map fun y => [x, y]
def ptsM (a b p : Int) : List (List Int) := [] :: (rng p).flatMap (rowM a b p)
theorem F_height_eq {a b p x : Int} (ha : a.natAbs < 1000000) (hx : x.natAbs < 1000000) (hp : 0 < p) : F_height [.tuple [.int a, .int b], .int p, .int x] = some (.int (hgt a b p x)) := by
  refine run_rt rfl ?_
  show B_height [vP a b, vI p, vI x] = _
  simp (disch := omega) [B_height, hgt]
theorem rng_dt {p : Int} : (List.range p.toNat).map (fun i => PyData.int (i : Nat)) = (rng p).map .int := by
  unfold rng; rw [List.map_map]; rfl
theorem rng1 {p : Int} (h : 0 ≤ p ∧ p < 1000) : rng1D [.int p] = some ((rng p).map .int) := by rw [o_rng1 (by omega), rng_dt]
theorem row_len (a b p x : Int) (h : 0 ≤ p) : (rowM a b p x).length ≤ p.toNat := by
  unfold rowM
  rw [List.length_map]
  refine Nat.le_trans (List.length_filter_le _ _) ?_
  simp [rng]
theorem F_points_eq {a b p : Int} (c : Cv p a b) : F_points [.tuple [.int a, .int b], .int p] = some (.tuple ((ptsM a b p).map tupI)) := by
  have p0 := c.p0; have p1 := c.p1; have a0 := c.a0; have a1 := c.a1
  have loop := forL_ind (f := PyData.int) (g := gSet 3) (B := L_points_1) (rng p)
    (fun i ρ => ∃ s3 s4 acc, ρ = [vP a b, vI p, .own (acc.map tupI), s3, s4] ∧ acc = [] :: ((rng p).take i).flatMap (rowM a b p) ∧ acc.length ≤ 1 + i * 31)
    (ρ := [vP a b, vI p, .own [tupI []], .unk, .unk]) ⟨_, _, [[]], rfl, by simp, by simp⟩
    (by
      rintro i x _ hx ⟨s3, s4, acc, rfl, hacc, hlen⟩
      have hi : i < (rng p).length := lt_of_get hx
      have hil : i < p.toNat := by simpa [rng] using hi
      have hxb := mem_rng.mp (List.mem_of_getElem? hx)
      have e : lcL (gSet 4) T_points_1 E_points_1 [vP a b, vI p, .own (acc.map tupI), vI x, .unk] ((rng p).map .int) = some ((rowM a b p x).map tupI) := by
        rw [lcL_filter (fun y => decide (y * y % p = hgt a b p x)) (fun y => tupI [x, y]) (rng p) ?_]
        · unfold rowM; rw [List.map_map]; rfl
        · intro y hy
          have hyb := mem_rng.mp hy
          refine ⟨_, rfl, ?_, fun _ => ?_⟩
          · simp (disch := omega) [T_points_1, F_height_eq (a := a) (b := b) (p := p) (x := x) (by omega) (by omega) (by omega)]
          · simp [E_points_1, tupI]
      have hr := row_len a b p x (by omega)
      have hz : ((rng p).map PyData.int).length ≤ 100000 := by simp [rng]; omega
      refine ⟨_, [vP a b, vI p, .own ((acc ++ rowM a b p x).map tupI), vI x, s4], rfl, ?_, vI x, s4, acc ++ rowM a b p x, rfl, ?_, ?_⟩
      · have e2 : lcF (iF rng1D (aCons (getV 1) aNil)) [4] (gSet 4) T_points_1 E_points_1 [vP a b, vI p, .own (acc.map tupI), vI x, s4] = some ((rowM a b p x).map tupI) := by
          rw [r_lcF]
          simp only [r_iF, r_aCons, r_getV, nth0, nthS, r_slV, Option.bind_some, r_aNil, Option.map_some, rng1 (show 0 ≤ p ∧ p < 1000 by omega), hz, if_true]
          exact e
        unfold L_points_1
        rw [r_sExt]
        simp only [nth0, nthS, r_lstF]
        show ((Option.map PyData.list (lcF _ _ _ _ _ [vP a b, vI p, .own (acc.map tupI), vI x, s4])).bind asL).bind _ = _
        rw [e2]
        show (if (acc.map tupI).length + ((rowM a b p x).map tupI).length < 100000 then _ else _) = _
        rw [if_pos (by rw [List.length_map, List.length_map]; omega), List.map_append]
        rfl
      · rw [List.take_add_one, hx, hacc]
        simp [List.flatMap_append]
      · rw [List.length_append]; omega)
  obtain ⟨ρ', h1, s3, s4, acc, rfl, hacc, _⟩ := loop
  refine run_rt rfl ?_
  show B_points [vP a b, vI p, .unk, .unk, .unk] = _
  have ee : acc = ptsM a b p := by rw [hacc, List.take_length]; rfl
  unfold B_points
  rw [seq_nx (ρ' := [vP a b, vI p, .own [tupI []], .unk, .unk]) (by simp [tupI]), seq_nx (ρ' := [vP a b, vI p, .own (acc.map tupI), s3, s4]) (by
    simp only [r_sFor, r_iF, r_aCons, r_getV, nth0, nthS, r_slV, Option.bind_some, r_aNil, Option.map_some, rng1 (show 0 ≤ p ∧ p < 1000 by omega)]
    exact h1)]
  simp [ee]
/-! ### the law's own points -/
theorem law_cond {a b p x y : Int} (hp : 0 < p) : decide ((y * y - x * x * x - a * x - b) % p = 0) = decide (y * y % p = hgt a b p x) := by
  unfold hgt
  congr 1
  rw [eq_iff_iff]
  have e : y * y - x * x * x - a * x - b = y * y - (x * x * x + a * x + b) := by omega
  rw [e]
  constructor
  · intro h
    exact Int.emod_eq_emod_iff_emod_sub_eq_zero.mpr h
  · intro h
    exact Int.emod_eq_emod_iff_emod_sub_eq_zero.mp h
theorem F_law_points_eq {a b p : Int} (c : Cv p a b) : F_law_points [.tuple [.int a, .int b], .int p] = some (.list ((ptsM a b p).map tupI)) := by
  have p0 := c.p0; have p1 := c.p1; have a0 := c.a0; have a1 := c.a1; have b0 := c.b0; have b1 := c.b1
  have inner : ∀ (x : Int) (acc : List (List Int)) (s6 : Sl), 0 ≤ x → x < p → acc.length ≤ 2000 → ∃ s6', L_law_points_2 [vP a b, vI p, .own (acc.map tupI), vI x, vI a, vI b, s6] = some (.nx [vP a b, vI p, .own ((acc ++ rowM a b p x).map tupI), vI x, vI a, vI b, s6']) := by
    intro x acc s6 hx0 hx1 hal
    have loop := forL_ind (f := PyData.int) (g := gSet 6) (B := L_law_points_1) (rng p)
      (fun i ρ => ∃ s6 acc2, ρ = [vP a b, vI p, .own (acc2.map tupI), vI x, vI a, vI b, s6] ∧ acc2 = acc ++ (((rng p).take i).filter fun y => decide (y * y % p = hgt a b p x)).map (fun y => [x, y]) ∧ acc2.length ≤ 2000 + i)
      (ρ := [vP a b, vI p, .own (acc.map tupI), vI x, vI a, vI b, s6]) ⟨_, acc, rfl, by simp, by omega⟩
      (by
        rintro i y _ hy ⟨s6, acc2, rfl, hacc, hlen⟩
        have hi : i < (rng p).length := lt_of_get hy
        have hil : i < p.toNat := by simpa [rng] using hi
        have hyb := mem_rng.mp (List.mem_of_getElem? hy)
        refine ⟨_, [vP a b, vI p, .own ((if y * y % p = hgt a b p x then acc2 ++ [[x, y]] else acc2).map tupI), vI x, vI a, vI b, vI y], rfl, ?_, vI y, _, rfl, ?_, ?_⟩
        · have hc := law_cond (a := a) (b := b) (p := p) (x := x) (y := y) (by omega)
          have hlt : acc2.length < 100000 := by omega
          unfold L_law_points_1
          simp (disch := omega) [hc]
          by_cases h : y * y % p = hgt a b p x
          · simp [h, r_sApp, hlt, tupI]
          · simp [h]
        · rw [List.take_add_one, hy, hacc]
          by_cases h : y * y % p = hgt a b p x
          · simp [h, List.filter_append]
          · simp [h, List.filter_append]
        · by_cases h : y * y % p = hgt a b p x
          · rw [if_pos h, List.length_append]; simp; omega
          · rw [if_neg h]; omega)
    obtain ⟨ρ', h1, s6', acc2, rfl, hacc, _⟩ := loop
    refine ⟨s6', ?_⟩
    unfold L_law_points_2
    simp only [r_sFor, r_iF, r_aCons, r_getV, nth0, nthS, r_slV, Option.bind_some, r_aNil, Option.map_some, rng1 (show 0 ≤ p ∧ p < 1000 by omega)]
    rw [List.take_length] at hacc
    rw [hacc] at h1
    exact h1
  have loop := forL_ind (f := PyData.int) (g := gSet 3) (B := L_law_points_2) (rng p)
    (fun i ρ => ∃ s3 s6 acc, ρ = [vP a b, vI p, .own (acc.map tupI), s3, vI a, vI b, s6] ∧ acc = [] :: ((rng p).take i).flatMap (rowM a b p) ∧ acc.length ≤ 1 + i * 31)
    (ρ := [vP a b, vI p, .own [tupI []], .unk, vI a, vI b, .unk]) ⟨_, _, [[]], rfl, by simp, by simp⟩
    (by
      rintro i x _ hx ⟨s3, s6, acc, rfl, hacc, hlen⟩
      have hi : i < (rng p).length := lt_of_get hx
      have hil : i < p.toNat := by simpa [rng] using hi
      have hxb := mem_rng.mp (List.mem_of_getElem? hx)
      obtain ⟨s6', h⟩ := inner x acc s6 hxb.1 hxb.2 (by omega)
      have hr := row_len a b p x (by omega)
      refine ⟨_, _, rfl, h, vI x, s6', acc ++ rowM a b p x, rfl, ?_, ?_⟩
      · rw [List.take_add_one, hx, hacc]
        simp [List.flatMap_append]
      · rw [List.length_append]; omega)
  obtain ⟨ρ', h1, s3, s6, acc, rfl, hacc, _⟩ := loop
  refine run_rt rfl ?_
  show B_law_points [vP a b, vI p, .unk, .unk, .unk, .unk, .unk] = _
  have ee : acc = ptsM a b p := by rw [hacc, List.take_length]; rfl
  unfold B_law_points
  rw [seq_nx (ρ' := [vP a b, vI p, .unk, .unk, vI a, vI b, .unk]) (by simp), seq_nx (ρ' := [vP a b, vI p, .own [tupI []], .unk, vI a, vI b, .unk]) (by simp [tupI]), seq_nx (ρ' := [vP a b, vI p, .own (acc.map tupI), s3, vI a, vI b, s6]) (by
    simp only [r_sFor, r_iF, r_aCons, r_getV, nth0, nthS, r_slV, Option.bind_some, r_aNil, Option.map_some, rng1 (show 0 ≤ p ∧ p < 1000 by omega)]
    exact h1)]
  simp [r_sRetO, ee]
theorem F_count_eq {a b p : Int} (c : Cv p a b) : F_count [.tuple [.int a, .int b], .int p] = some (.int (ptsM a b p).length) := by
  refine run_rt rfl ?_
  show B_count [vP a b, vI p] = _
  simp [B_count, F_points_eq c]
end Pf

-- part Lm4
set_option maxHeartbeats 1000000
namespace Pf
open PySem Cc L2
/-! ### how every law begins -/
abbrev eSize : EF := e2 ixD (mkTup (aCons (cst (.int 5)) (aCons (cst (.int 7)) (aCons (cst (.int 11)) (aCons (cst (.int 13)) (aCons (cst (.int 17)) (aCons (cst (.int 19)) (aCons (cst (.int 23)) (aCons (cst (.int 29)) (aCons (cst (.int 31)) aNil)))))))))) (e2 modD (callS 0 Pf.F_law_mixed (aCons (cst (.int 0)) aNil)) (cst (.int 9)))
theorem size_of (ns : List Int) : ∃ p, p ∈ PR ∧ ∀ ρ, eSize (.scr ns :: ρ) = some (.int p) := by
  have h := md (mixed ns 0) 9 (by decide)
  have key : ∀ m : Int, 0 ≤ m → m < 9 → ∃ p, p ∈ PR ∧ atI (PR.map PyData.int) m = some (.int p) := by
    intro m h0 h1
    have : m = 0 ∨ m = 1 ∨ m = 2 ∨ m = 3 ∨ m = 4 ∨ m = 5 ∨ m = 6 ∨ m = 7 ∨ m = 8 := by omega
    rcases this with h | h | h | h | h | h | h | h | h <;> subst h <;> exact ⟨_, by decide, rfl⟩
  obtain ⟨p, hp, e⟩ := key _ h.1 h.2
  refine ⟨p, hp, fun ρ => ?_⟩
  have e1 : (mkTup (aCons (cst (.int 5)) (aCons (cst (.int 7)) (aCons (cst (.int 11)) (aCons (cst (.int 13)) (aCons (cst (.int 17)) (aCons (cst (.int 19)) (aCons (cst (.int 23)) (aCons (cst (.int 29)) (aCons (cst (.int 31)) aNil)))))))))) (Sl.scr ns :: ρ) = some (.tuple (PR.map .int)) := rfl
  rw [eSize, r_e2, e1]
  simp only [Option.bind_some, r_e2, r_callS, nth0, r_asScr, r_aCons, r_cst, r_aNil, Option.map_some, F_mixed (ns := ns) (k := 0) (by decide) (by decide), o_mod (show (0 : Int) < 9 by decide), o_ixT]
  exact e
theorem mix {ns : List Int} {k : Int} (h : 0 ≤ k) (h2 : k < 1000) (ρ : Dn) : callS 0 Pf.F_law_mixed (aCons (cst (.int k)) aNil) (.scr ns :: ρ) = some (.int (mixed ns k)) := by
  simp only [r_callS, nth0, r_asScr, r_aCons, r_cst, r_aNil, Option.map_some, Option.bind_some, F_mixed (ns := ns) h h2]
theorem curve_of (ns : List Int) {k : Int} (h : 0 ≤ k) (h2 : k < 1000) {p : Int} (hp : p ∈ PR) : ∃ a b, Cv p a b ∧ ∀ ρ, callF Pf.F_law_curve (aCons (callS 0 Pf.F_law_mixed (aCons (cst (.int k)) aNil)) (aCons (getV 1) aNil)) (.scr ns :: vI p :: ρ) = some (.tuple [.int a, .int b]) := by
  obtain ⟨a, b, e, c⟩ := F_curve (mixed ns k) hp
  refine ⟨a, b, c, fun ρ => ?_⟩
  simp only [r_callF, r_aCons, mix h h2, Option.bind_some, r_getV, nth0, nthS, r_slV, r_aNil, Option.map_some, e]
theorem set_eq {i : Nat} {f : EF} {ρ : Dn} {d : Dt} (h : f ρ = some d) : sSet i f ρ = some (.nx (ρ.set i (.val d))) := by rw [r_sSet, h]; rfl
theorem seq_set {i : Nat} {f : EF} {B : SF} {ρ : Dn} {d : Dt} (h : f ρ = some d) : sSeq (sSet i f) B ρ = B (ρ.set i (.val d)) := seq_nx (set_eq h)
theorem seq_if_no {t : TF} {A B : SF} {ρ : Dn} (h : t ρ = some false) : sSeq (sIf t A sNil) B ρ = B ρ := seq_nx (by rw [r_sIf, h]; rfl)
theorem seq_if_yes {t : TF} {A B : SF} {ρ : Dn} {d : Dt} (h : t ρ = some true) (h2 : A ρ = some (.rt d)) : sSeq (sIf t A sNil) B ρ = some (.rt d) := seq_rt (by rw [r_sIf, h]; exact h2)
/-! ### membership -/
theorem mem_pts {a b p : Int} {t : List Int} : t ∈ ptsM a b p ↔ t = [] ∨ ∃ x y, t = [x, y] ∧ (0 ≤ x ∧ x < p) ∧ (0 ≤ y ∧ y < p) ∧ y * y % p = hgt a b p x := by
  unfold ptsM rowM
  rw [List.mem_cons, List.mem_flatMap]
  constructor
  · rintro (h | ⟨x, hx, h⟩)
    · exact .inl h
    · obtain ⟨y, hy, rfl⟩ := List.mem_map.mp h
      obtain ⟨hy, hc⟩ := List.mem_filter.mp hy
      exact .inr ⟨x, y, rfl, mem_rng.mp hx, mem_rng.mp hy, of_decide_eq_true hc⟩
  · rintro (h | ⟨x, y, rfl, hx, hy, hc⟩)
    · exact .inl h
    · exact .inr ⟨x, mem_rng.mpr hx, List.mem_map.mpr ⟨y, List.mem_filter.mpr ⟨mem_rng.mpr hy, decide_eq_true hc⟩, rfl⟩⟩
/-! ### is_whole, is_number, is_point of points -/
@[simp] theorem is_whole_int {i : Int} : F_is_whole [.int i] = some (.bool true) := run_rt rfl rfl
theorem is_number_int {i p : Int} : F_is_number [.int i, .int p] = some (.bool (decide (0 ≤ i) && decide (i < p))) := by
  refine run_rt rfl ?_
  show B_is_number [vI i, vI p] = _
  by_cases h : 0 ≤ i <;> simp [B_is_number, h]
@[simp] theorem isTuple_tup {ds : List Dt} : isTuple (.tuple ds) = some (.bool true) := rfl
@[simp] theorem isBool_int {i : Int} : isBool (.int i) = some (.bool false) := rfl
@[simp] theorem allD_b {bs : List Bool} : allD [.list (bs.map .bool)] = some (.bool (bs.all id)) := by simp [allD, boolsD_map]
theorem is_point_pt {a b p : Int} (c : Cv p a b) {t : List Int} (h : t ∈ ptsM a b p) : F_is_point [tupI t, .tuple [.int a, .int b], .int p] = some (.bool true) := by
  have p0 := c.p0; have p1 := c.p1; have a0 := c.a0; have a1 := c.a1
  refine run_rt rfl ?_
  show B_is_point [.val (tupI t), vP a b, vI p, .unk] = _
  rcases mem_pts.mp h with rfl | ⟨x, y, rfl, ⟨hx0, hx1⟩, ⟨hy0, hy1⟩, hc⟩
  · unfold B_is_point
    exact seq_if_yes (by simp) (by simp [tupI])
  · unfold B_is_point
    rw [seq_if_no (by simp), seq_if_no ?_]
    · simp (disch := omega) [tupI, F_height_eq (a := a) (b := b) (p := p) (x := x) (by omega) (by omega) (by omega), hc]
    · have e : lcL (gSet 3) tYesD E_is_point_1 (wipeD [.val (tupI [x, y]), vP a b, vI p, .unk] [3]) ([x, y].map .int) = some ([x, y].map fun z => .bool true) := by
        refine lcL_map _ _ fun z hz => ⟨_, rfl, rfl, ?_⟩
        have hb : 0 ≤ z ∧ z < p := by
          rcases List.mem_cons.mp hz with rfl | hz
          · exact ⟨hx0, hx1⟩
          · rcases List.mem_cons.mp hz with rfl | hz
            · exact ⟨hy0, hy1⟩
            · cases hz
        simp [E_is_point_1, wipeD, is_number_int, hb.1, hb.2]
      have e2 : lcF (iSeq (getV 0)) [3] (gSet 3) tYesD E_is_point_1 [.val (tupI [x, y]), vP a b, vI p, .unk] = some ([true, true].map .bool) := by
        rw [r_lcF]
        exact e
      simp only [r_tOr, r_tNt, r_tB, r_e1, r_getV, nth0, r_slV, Option.bind_some, r_e2, r_callF, r_aCons, r_aNil, r_lstF, e2, Option.map_some, allD_b]
      simp [tupI]
end Pf

-- part Lm5
set_option maxHeartbeats 1000000
namespace Pf
open PySem Cc L2
/-! ### powers, inverses -/
def powM (n : Int) (p : Int) : Nat → Int
  | 0 => 1
  | k + 1 => powM n p k * n % p
theorem powM_b {n p : Int} (hp : 1 < p) : ∀ k, 0 ≤ powM n p k ∧ powM n p k < p
  | 0 => by unfold powM; omega
  | k + 1 => md _ _ (by omega)
theorem F_power_eq {n k p : Int} (hn : n.natAbs < 1000000) (hk : 0 ≤ k ∧ k < 1000) (hp : 1 < p ∧ p < 1000) : F_power [.int n, .int k, .int p] = some (.int (powM n p k.toNat)) := by
  have loop := forL_ind (f := PyData.int) (g := gSet 4) (B := L_power_1) (rng k)
    (fun i ρ => ∃ s4, ρ = [vI n, vI k, vI p, vI (powM n p i), s4]) (ρ := [vI n, vI k, vI p, vI 1, .unk]) ⟨_, rfl⟩
    (by
      rintro i x _ hx ⟨s4, rfl⟩
      have hb := powM_b (n := n) (p := p) (by omega) i
      refine ⟨_, [vI n, vI k, vI p, vI (powM n p (i + 1)), vI x], rfl, ?_, _, rfl⟩
      simp (disch := omega) [L_power_1, powM])
  obtain ⟨ρ', h1, s4, rfl⟩ := loop
  have hl : (rng k).length = k.toNat := by simp [rng]
  rw [hl] at h1
  refine run_rt rfl ?_
  show B_power [vI n, vI k, vI p, .unk, .unk] = _
  unfold B_power
  rw [seq_nx (ρ' := [vI n, vI k, vI p, vI 1, .unk]) (by simp), seq_nx (ρ' := [vI n, vI k, vI p, vI (powM n p k.toNat), s4]) (by
    simp only [r_sFor, r_iF, r_aCons, r_getV, nth0, nthS, r_slV, Option.bind_some, r_aNil, Option.map_some, rng1 (show 0 ≤ k ∧ k < 1000 by omega)]
    exact h1)]
  simp
def invM (n p : Int) : Int := powM n p (p - 2).toNat
theorem inv_fact : ∀ p ∈ PR, ∀ n ∈ rng p, n = 0 ∨ invM n p * n % p = 1 := by decide +kernel
theorem inv_mul {p n : Int} (hp : p ∈ PR) (h0 : 0 ≤ n) (h1 : n < p) (hn : n ≠ 0) : invM n p * n % p = 1 := (inv_fact p hp n (mem_rng.mpr ⟨h0, h1⟩)).resolve_left hn
theorem invM_b {n p : Int} (hp : p ∈ PR) : 0 ≤ invM n p ∧ invM n p < p := powM_b (by have := pr_b hp; omega) _
theorem F_inverse_eq {n p : Int} (hp : p ∈ PR) (hn : n.natAbs < 1000000) (h0 : n ≠ 0) : F_inverse [.int n, .int p] = some (.int (invM n p)) := by
  have := pr_b hp
  refine run_rt rfl ?_
  show B_inverse [vI n, vI p] = _
  unfold B_inverse
  rw [seq_if_no (by simp [h0])]
  simp [F_power_eq (n := n) (k := p - 2) (p := p) hn (by omega) (by omega), invM]
/-! ### sums -/
def slopeM (a p x1 y1 x2 y2 : Int) : Int := if x1 = x2 ∧ y1 = y2 then (3 * x1 * x1 + a) * invM (2 * y1 % p) p % p else (y2 - y1) * invM ((x2 - x1) % p) p % p
def sumM (p s x1 y1 x2 : Int) : List Int := [(s * s - x1 - x2) % p, (s * (x1 - (s * s - x1 - x2) % p) - y1) % p]
def plusM (a p : Int) : List Int → List Int → List Int
  | [], Q => Q
  | P, [] => P
  | [x1, y1], [x2, y2] => if x1 = x2 ∧ (y1 + y2) % p = 0 then [] else sumM p (slopeM a p x1 y1 x2 y2) x1 y1 x2
  | _, _ => []
theorem sq_fact : ∀ p ∈ PR, ∀ y ∈ rng p, ∀ z ∈ rng p, y * y % p = z * z % p → y = z ∨ (y + z) % p = 0 := by decide +kernel
theorem two_fact : ∀ p ∈ PR, ∀ y ∈ rng p, (2 * y) % p = 0 → y = 0 := by decide +kernel
theorem mod_ne {p x y : Int} (hx : 0 ≤ x ∧ x < p) (hy : 0 ≤ y ∧ y < p) (h : x ≠ y) : (x - y) % p ≠ 0 := by
  intro e
  have h2 := Int.emod_eq_emod_iff_emod_sub_eq_zero.mpr e
  rw [Int.emod_eq_of_lt hx.1 hx.2, Int.emod_eq_of_lt hy.1 hy.2] at h2
  exact h h2
theorem slopeM_b {a p x1 y1 x2 y2 : Int} (hp : 0 < p) : 0 ≤ slopeM a p x1 y1 x2 y2 ∧ slopeM a p x1 y1 x2 y2 < p := by
  unfold slopeM; split <;> exact md _ _ hp
theorem F_slope_eq {a b p x1 y1 x2 y2 : Int} (hp : p ∈ PR) (ha : 0 ≤ a ∧ a < p) (hx1 : 0 ≤ x1 ∧ x1 < p) (hy1 : 0 ≤ y1 ∧ y1 < p) (hx2 : 0 ≤ x2 ∧ x2 < p) (hy2 : 0 ≤ y2 ∧ y2 < p) (h : (x1 = x2 ∧ y1 = y2 ∧ (y1 + y2) % p ≠ 0) ∨ x1 ≠ x2) :
    F_slope [.tuple [.int a, .int b], .int p, tupI [x1, y1], tupI [x2, y2]] = some (.int (slopeM a p x1 y1 x2 y2)) := by
  obtain ⟨p0, p1⟩ := pr_b hp
  refine run_rt rfl ?_
  show B_slope [vP a b, vI p, .val (tupI [x1, y1]), .val (tupI [x2, y2])] = _
  unfold B_slope
  by_cases e : x1 = x2 ∧ y1 = y2
  · obtain ⟨rfl, rfl⟩ := e
    have hne : 2 * y1 % p ≠ 0 := by
      rcases h with ⟨_, _, h⟩ | h
      · rwa [show y1 + y1 = 2 * y1 by omega] at h
      · exact absurd rfl h
    have hb := md (2 * y1) p (by omega)
    refine seq_if_yes (by simp) ?_
    have hi := invM_b (n := 2 * y1 % p) hp
    simp (disch := omega) [tupI, F_inverse_eq (n := 2 * y1 % p) hp (by omega) hne, slopeM]
  · have hxx : x1 ≠ x2 := by
      rcases h with ⟨h1, h2, _⟩ | h
      · exact absurd ⟨h1, h2⟩ e
      · exact h
    have hne := mod_ne hx2 hx1 (Ne.symm hxx)
    have hb := md (x2 - x1) p (by omega)
    have hi := invM_b (n := (x2 - x1) % p) hp
    rw [seq_if_no (by simp; omega)]
    simp (disch := omega) [tupI, F_inverse_eq (n := (x2 - x1) % p) hp (by omega) hne, slopeM, hxx]
theorem F_plus_eq {a b p : Int} (c : Cv p a b) {P Q : List Int} (hP : P ∈ ptsM a b p) (hQ : Q ∈ ptsM a b p) : F_plus [.tuple [.int a, .int b], .int p, tupI P, tupI Q] = some (tupI (plusM a p P Q)) := by
  have p0 := c.p0; have p1 := c.p1
  refine run_rt rfl ?_
  show B_plus [vP a b, vI p, .val (tupI P), .val (tupI Q), .unk, .unk] = _
  unfold B_plus
  rcases mem_pts.mp hP with rfl | ⟨x1, y1, rfl, hx1, hy1, h1⟩
  · exact seq_if_yes (by simp) (by simp [plusM])
  rw [seq_if_no (by simp)]
  rcases mem_pts.mp hQ with rfl | ⟨x2, y2, rfl, hx2, hy2, h2⟩
  · exact seq_if_yes (by simp) (by simp [plusM])
  rw [seq_if_no (by simp)]
  by_cases e : x1 = x2 ∧ (y1 + y2) % p = 0
  · refine seq_if_yes (by simp (disch := omega) [tupI, e.1, e.2]) (by simp [plusM, e, tupI])
  · rw [seq_if_no (by
      by_cases e1 : x1 = x2
      · have e2 : (y1 + y2) % p ≠ 0 := fun q => e ⟨e1, q⟩
        simp (disch := omega) [tupI, e1, e2]
      · simp [tupI, e1])]
    have hs : (x1 = x2 ∧ y1 = y2 ∧ (y1 + y2) % p ≠ 0) ∨ x1 ≠ x2 := by
      by_cases e1 : x1 = x2
      · have e2 : (y1 + y2) % p ≠ 0 := fun q => e ⟨e1, q⟩
        have e3 : y1 = y2 := (sq_fact p c.pm y1 (mem_rng.mpr hy1) y2 (mem_rng.mpr hy2) (by rw [h1, h2, e1])).resolve_right e2
        exact .inl ⟨e1, e3, e2⟩
      · exact .inr e1
    have hb := slopeM_b (a := a) (p := p) (x1 := x1) (y1 := y1) (x2 := x2) (y2 := y2) (by omega)
    have hm := md (slopeM a p x1 y1 x2 y2 * slopeM a p x1 y1 x2 y2 - x1 - x2) p (by omega)
    rw [seq_set (d := .int (slopeM a p x1 y1 x2 y2)) (by simp [F_slope_eq (b := b) c.pm ⟨c.a0, c.a1⟩ hx1 hy1 hx2 hy2 hs])]
    simp only [List.set_cons_succ, List.set_cons_zero]
    simp (disch := omega) [r_sSeq, tupI, plusM, e, sumM]
def negM (p : Int) : List Int → List Int
  | [x, y] => [x, -y % p]
  | _ => []
theorem F_minus_eq {a b p : Int} (c : Cv p a b) {P : List Int} (hP : P ∈ ptsM a b p) : F_minus [.tuple [.int a, .int b], .int p, tupI P] = some (tupI (negM p P)) := by
  have p0 := c.p0; have p1 := c.p1
  refine run_rt rfl ?_
  show B_minus [vP a b, vI p, .val (tupI P)] = _
  unfold B_minus
  rcases mem_pts.mp hP with rfl | ⟨x1, y1, rfl, hx1, hy1, h1⟩
  · exact seq_if_yes (by simp) (by simp [negM, tupI])
  rw [seq_if_no (by simp)]
  simp (disch := omega) [tupI, negM]
end Pf

-- part Lm6
set_option maxHeartbeats 1000000
namespace Pf
open PySem Cc L2
/-! ### the law's own division and sum -/
theorem eqm {p x y : Int} (h0 : 0 ≤ x) (h1 : x < p) (h : p ∣ x - y) : x = y % p := by
  have := Int.emod_eq_emod_iff_emod_sub_eq_zero.mpr (Int.emod_eq_zero_of_dvd h)
  rwa [Int.emod_eq_of_lt h0 h1] at this
theorem modeq {p x y : Int} (h : p ∣ x - y) : x % p = y % p := Int.emod_eq_emod_iff_emod_sub_eq_zero.mpr (Int.emod_eq_zero_of_dvd h)
theorem dvd_mod (p x : Int) : p ∣ x - x % p := Int.dvd_self_sub_emod
/-- an inverse, as a multiple -/
theorem inv_dvd {p l : Int} (hp : p ∈ PR) (h : l % p ≠ 0) : p ∣ invM (l % p) p * l - 1 := by
  have hb := pr_b hp
  have hm := md l p (by omega)
  have h1 := inv_mul hp hm.1 hm.2 h
  have h2 : p ∣ invM (l % p) p * (l % p) - 1 := Int.dvd_of_emod_eq_zero (by rw [Int.sub_emod, h1, show (1 : Int) % p = 1 by exact Int.emod_eq_of_lt (by omega) (by omega)]; simp)
  obtain ⟨k1, h3⟩ := dvd_mod p l
  obtain ⟨k2, h4⟩ := h2
  exact ⟨invM (l % p) p * k1 + k2, by grind⟩
/-- the one solution -/
theorem div_uniq {p l u n : Int} (hp : p ∈ PR) (h : l % p ≠ 0) (h0 : 0 ≤ n) (h1 : n < p) : (n * l - u) % p = 0 ↔ n = u * invM (l % p) p % p := by
  obtain ⟨k, hk⟩ := inv_dvd hp h
  constructor
  · intro e
    obtain ⟨k1, h2⟩ := Int.dvd_of_emod_eq_zero e
    exact eqm h0 h1 ⟨k1 * invM (l % p) p - n * k, by grind⟩
  · intro e
    obtain ⟨k1, h2⟩ := dvd_mod p (u * invM (l % p) p)
    rw [← e] at h2
    exact Int.emod_eq_zero_of_dvd ⟨u * k - k1 * l, by grind⟩
theorem rng_nodup (p : Int) : (rng p).Nodup := by
  unfold rng
  refine List.Pairwise.map _ (fun a b h e => h ?_) (List.nodup_range (n := p.toNat))
  exact Int.ofNat.inj e
theorem filter_one : ∀ {xs : List Int} {n : Int}, xs.Nodup → n ∈ xs → xs.filter (fun x => decide (x = n)) = [n]
  | x :: xs, n, hd, hm => by
    have hx := List.nodup_cons.mp hd
    by_cases e : x = n
    · subst e
      have : xs.filter (fun y => decide (y = x)) = [] := List.filter_eq_nil_iff.mpr fun y hy h => hx.1 (by simpa using of_decide_eq_true h ▸ hy)
      simp [this]
    · have : n ∈ xs := by rcases List.mem_cons.mp hm with h | h; exact absurd h.symm e; exact h
      simp [e, filter_one hx.2 this]
def divM (u l p : Int) : Int := u * invM (l % p) p % p
theorem F_divided_eq {u l p : Int} (hp : p ∈ PR) (hl : l.natAbs < 1000000) (h : l % p ≠ 0) : F_law_divided [.int u, .int l, .int p] = some (.int (divM u l p)) := by
  have hb := pr_b hp
  refine run_rt rfl ?_
  show B_law_divided [vI u, vI l, vI p, .unk] = _
  have e : lcL (gSet 3) T_law_divided_1 E_law_divided_1 (wipeD [vI u, vI l, vI p, .unk] [3]) ((rng p).map .int) = some (((rng p).filter fun n => decide (n = divM u l p)).map .int) := by
    rw [lcL_filter (fun n => decide (n = divM u l p)) PyData.int (rng p) fun n hn => ⟨_, rfl, ?_, fun _ => by simp [E_law_divided_1, wipeD]⟩]
    have hn := mem_rng.mp hn
    have q := div_uniq (u := u) hp h hn.1 hn.2
    have q2 : decide ((n * l - u) % p = 0) = decide (n = divM u l p) := by congr 1; exact propext q
    simp (disch := omega) [T_law_divided_1, wipeD, q2]
  have hz : ((rng p).map PyData.int).length ≤ 100000 := by simp [rng]; omega
  have e2 : lcF (iF rng1D (aCons (getV 2) aNil)) [3] (gSet 3) T_law_divided_1 E_law_divided_1 [vI u, vI l, vI p, .unk] = some [.int (divM u l p)] := by
    rw [r_lcF]
    simp only [r_iF, r_aCons, r_getV, nth0, nthS, r_slV, Option.bind_some, r_aNil, Option.map_some, rng1 (show 0 ≤ p ∧ p < 1000 by omega), hz, if_true]
    rw [e, filter_one (n := divM u l p) (rng_nodup p) (mem_rng.mpr (md _ _ (by omega)))]
    rfl
  unfold B_law_divided
  simp only [r_sRet, r_e2, r_lstF, e2]
  simp
theorem F_law_plus_eq {a b p : Int} (c : Cv p a b) {P Q : List Int} (hP : P ∈ ptsM a b p) (hQ : Q ∈ ptsM a b p) : F_law_plus [.tuple [.int a, .int b], .int p, tupI P, tupI Q] = some (tupI (plusM a p P Q)) := by
  have p0 := c.p0; have p1 := c.p1; have a0 := c.a0; have a1 := c.a1
  have cat : ∀ s t : List Int, s.length + t.length ≤ 10 → addD (tupI s) (tupI t) = some (tupI (s ++ t)) := by
    intro s t h
    refine (if_pos ?_).trans (by rw [tupI, List.map_append])
    rw [List.length_map, List.length_map]
    exact Nat.le_trans h (by decide)
  have two : ∀ R ∈ ptsM a b p, R.length ≤ 2 := by
    intro R hR
    rcases mem_pts.mp hR with rfl | ⟨x, y, rfl, _⟩ <;> simp
  have tP := two P hP; have tQ := two Q hQ
  refine run_rt rfl ?_
  show B_law_plus [vP a b, vI p, .val (tupI P), .val (tupI Q), .unk, .unk] = _
  unfold B_law_plus
  by_cases e0 : P = [] ∨ Q = []
  · refine seq_if_yes (by
      rcases e0 with rfl | rfl
      · simp
      · by_cases h : P = [] <;> simp [h]) ?_
    have : plusM a p P Q = P ++ Q := by
      rcases e0 with rfl | rfl
      · rfl
      · rcases mem_pts.mp hP with rfl | ⟨x, y, rfl, _⟩ <;> rfl
    simp [cat P Q (by omega), this]
  have eP : P ≠ [] := fun h => e0 (.inl h)
  have eQ : Q ≠ [] := fun h => e0 (.inr h)
  rw [seq_if_no (by simp [eP, eQ])]
  obtain ⟨x1, y1, rfl, hx1, hy1, h1⟩ := (mem_pts.mp hP).resolve_left eP
  obtain ⟨x2, y2, rfl, hx2, hy2, h2⟩ := (mem_pts.mp hQ).resolve_left eQ
  by_cases e : x1 = x2 ∧ (y1 + y2) % p = 0
  · refine seq_if_yes ?_ (by simp [plusM, e, tupI])
    have : y1 ≠ y2 ∨ y1 = 0 := by
      by_cases q : y1 = y2
      · right
        have := e.2
        rw [← q, show y1 + y1 = 2 * y1 by omega] at this
        exact two_fact p c.pm y1 (mem_rng.mpr hy1) this
      · exact .inl q
    by_cases q : y1 = y2
    · simp [tupI, e.1, q, this.resolve_left (by simp [q])]
      have := this.resolve_left (by simp [q])
      omega
    · simp [tupI, e.1, q]
  · rw [seq_if_no (by
      by_cases q : x1 = x2
      · have e2 : (y1 + y2) % p ≠ 0 := fun z => e ⟨q, z⟩
        have e3 : y1 = y2 := (sq_fact p c.pm y1 (mem_rng.mpr hy1) y2 (mem_rng.mpr hy2) (by rw [h1, h2, q])).resolve_right e2
        have e4 : y1 ≠ 0 := by rintro rfl; rw [← e3] at e2; simp at e2
        simp [tupI, q, e3, e3 ▸ e4]
      · simp [tupI, q])]
    have hb := slopeM_b (a := a) (p := p) (x1 := x1) (y1 := y1) (x2 := x2) (y2 := y2) (by omega)
    have hm := md (slopeM a p x1 y1 x2 y2 * slopeM a p x1 y1 x2 y2 - x1 - x2) p (by omega)
    have st : (sIf (tB' (e2 eqD (getV 2) (getV 3))) (sSet 5 (callF Pf.F_law_divided (aCons (e2 addD (e2 mulD (e2 mulD (cst (.int 3)) (e2 ixD (getV 2) (cst (.int 0)))) (e2 ixD (getV 2) (cst (.int 0)))) (e2 ixD (getV 0) (cst (.int 0)))) (aCons (e2 mulD (cst (.int 2)) (e2 ixD (getV 2) (cst (.int 1)))) (aCons (getV 1) aNil)))))
        (sSet 5 (callF Pf.F_law_divided (aCons (e2 subD (e2 ixD (getV 2) (cst (.int 1))) (e2 ixD (getV 3) (cst (.int 1)))) (aCons (e2 subD (e2 ixD (getV 2) (cst (.int 0))) (e2 ixD (getV 3) (cst (.int 0)))) (aCons (getV 1) aNil)))))) [vP a b, vI p, .val (tupI [x1, y1]), .val (tupI [x2, y2]), .unk, .unk] =
        some (.nx [vP a b, vI p, .val (tupI [x1, y1]), .val (tupI [x2, y2]), .unk, vI (slopeM a p x1 y1 x2 y2)]) := by
      by_cases q : x1 = x2 ∧ y1 = y2
      · obtain ⟨rfl, rfl⟩ := q
        have hne : 2 * y1 % p ≠ 0 := by
          intro z
          exact e ⟨rfl, by rwa [show y1 + y1 = 2 * y1 by omega]⟩
        have ht : tB' (e2 eqD (getV 2) (getV 3)) [vP a b, vI p, .val (tupI [x1, y1]), .val (tupI [x1, y1]), .unk, .unk] = some true := by simp
        rw [r_sIf, ht]
        simp (disch := omega) [tupI, F_divided_eq (l := 2 * y1) c.pm (by omega) hne, slopeM, divM]
      · have hxx : x1 ≠ x2 := by
          intro z
          have e2 : (y1 + y2) % p ≠ 0 := fun w => e ⟨z, w⟩
          exact q ⟨z, (sq_fact p c.pm y1 (mem_rng.mpr hy1) y2 (mem_rng.mpr hy2) (by rw [h1, h2, z])).resolve_right e2⟩
        have hne := mod_ne hx1 hx2 hxx
        have hne2 := mod_ne hx2 hx1 (Ne.symm hxx)
        have es : divM (y1 - y2) (x1 - x2) p = slopeM a p x1 y1 x2 y2 := by
          have s1 : slopeM a p x1 y1 x2 y2 = (y2 - y1) * invM ((x2 - x1) % p) p % p := by unfold slopeM; rw [if_neg q]
          refine ((div_uniq (u := y1 - y2) c.pm hne hb.1 hb.2).mp ?_).symm
          have s2 := (div_uniq (u := y2 - y1) c.pm hne2 hb.1 hb.2).mpr s1
          obtain ⟨k, hk⟩ := Int.dvd_of_emod_eq_zero s2
          exact Int.emod_eq_zero_of_dvd ⟨-k, by grind⟩
        have ht : tB' (e2 eqD (getV 2) (getV 3)) [vP a b, vI p, .val (tupI [x1, y1]), .val (tupI [x2, y2]), .unk, .unk] = some false := by simp [hxx]
        rw [r_sIf, ht]
        simp (disch := omega) [tupI, hxx, F_divided_eq (u := y1 - y2) (l := x1 - x2) c.pm (by omega) hne, es]
    rw [seq_nx st]
    have hy : (slopeM a p x1 y1 x2 y2 * (x2 - (slopeM a p x1 y1 x2 y2 * slopeM a p x1 y1 x2 y2 - x1 - x2) % p) - y2) % p = (slopeM a p x1 y1 x2 y2 * (x1 - (slopeM a p x1 y1 x2 y2 * slopeM a p x1 y1 x2 y2 - x1 - x2) % p) - y1) % p := by
      refine modeq ?_
      by_cases q : x1 = x2 ∧ y1 = y2
      · obtain ⟨rfl, rfl⟩ := q
        exact ⟨0, by omega⟩
      · have hxx : x1 ≠ x2 := by
          intro z
          have e2 : (y1 + y2) % p ≠ 0 := fun w => e ⟨z, w⟩
          exact q ⟨z, (sq_fact p c.pm y1 (mem_rng.mpr hy1) y2 (mem_rng.mpr hy2) (by rw [h1, h2, z])).resolve_right e2⟩
        have hne2 := mod_ne hx2 hx1 (Ne.symm hxx)
        have s1 : slopeM a p x1 y1 x2 y2 = (y2 - y1) * invM ((x2 - x1) % p) p % p := by unfold slopeM; rw [if_neg q]
        obtain ⟨k, hk⟩ := Int.dvd_of_emod_eq_zero ((div_uniq (u := y2 - y1) c.pm hne2 hb.1 hb.2).mpr s1)
        exact ⟨k, by grind⟩
    simp (disch := omega) [r_sSeq, tupI, plusM, e, sumM, hy]
end Pf

-- part Lm7
set_option maxHeartbeats 1000000
namespace Pf
open PySem Cc L2
/-! ### pieces of the laws -/
theorem pts_len {a b p : Int} (h0 : 0 ≤ p) (h : p ≤ 31) : (ptsM a b p).length ≤ 1000 := by
  unfold ptsM
  rw [List.length_cons, List.length_flatMap]
  have : ∀ xs : List Int, (xs.map fun x => (rowM a b p x).length).sum ≤ xs.length * 31 := by
    intro xs
    induction xs with
    | nil => simp
    | cons x xs ih =>
      have := row_len a b p x h0
      rw [List.map_cons, List.sum_cons, List.length_cons]
      omega
  have h2 := this (rng p)
  have h3 : (rng p).length = p.toNat := by simp [rng]
  omega
/-- a filter that keeps nothing -/
theorem lc_none {ts : List (List Int)} {t : TF} {e : EF} {vs : List Nat} {i : Nat} {f : EF} {ρ : Dn} (hf : itemsD (f ρ) = some (ts.map tupI)) (hl : ts.length ≤ 1000) (h : ∀ x ∈ ts, t ((wipeD ρ vs).set i (.val (tupI x))) = some false) : lstF (lcF (iSeq f) vs (gSet i) t e) ρ = some (.list []) := by
  rw [r_lstF, r_lcF, r_iSeq, hf, Option.bind_some, if_pos (by rw [List.length_map]; omega), lcL_filter (fun _ => false) tupI ts fun x hx => ⟨_, rfl, h x hx, fun z => by cases z⟩]
  simp
/-- no bool among whole numbers -/
theorem lc_nobool {t : List Int} (hl : t.length ≤ 1000) {tt : TF} {e : EF} {vs : List Nat} {i : Nat} {f : EF} {ρ : Dn} (hf : itemsD (f ρ) = some (t.map .int)) (h : ∀ z : Int, tt ((wipeD ρ vs).set i (.val (.int z))) = some false) : lstF (lcF (iSeq f) vs (gSet i) tt e) ρ = some (.list []) := by
  rw [r_lstF, r_lcF, r_iSeq, hf, Option.bind_some, if_pos (by rw [List.length_map]; omega), lcL_filter (fun _ => false) PyData.int t fun x hx => ⟨_, rfl, h x, fun z => by cases z⟩]
  simp
theorem pick_of {ts : List (List Int)} (h : ts ≠ []) (n : Int) : ∃ t ∈ ts, atI (ts.map tupI) (n % (ts.length : Int)) = some (tupI t) := by
  have hl : 0 < ts.length := List.length_pos_iff.mpr h
  have hm := md n ts.length (by omega)
  obtain ⟨k, hk⟩ := Int.eq_ofNat_of_zero_le hm.1
  have hk2 : k < ts.length := by omega
  refine ⟨ts[k], List.getElem_mem hk2, ?_⟩
  rw [hk]
  simp only [atI, ixN]
  rw [if_pos (by omega), if_pos (by simp; omega)]
  simp [hk2]
theorem pts_ne (a b p : Int) : ptsM a b p ≠ [] := by unfold ptsM; simp
theorem inT_eq (t : List Int) (ts : List (List Int)) : (ts.map tupI).any (fun e => PyData.eqv e (tupI t)) = decide (t ∈ ts) := by
  induction ts with
  | nil => simp
  | cons s ts ih =>
    rw [List.map_cons, List.any_cons, ih, eqv_tupI, Bool.eq_iff_iff]
    simp only [Bool.or_eq_true, decide_eq_true_eq, List.mem_cons]
    constructor
    · rintro (h | h)
      · exact .inl h.symm
      · exact .inr h
    · rintro (h | h)
      · exact .inl h.symm
      · exact .inr h
@[simp] theorem o_inL {t : List Int} {ts : List (List Int)} : inD (tupI t) (.list (ts.map tupI)) = some (.bool (decide (t ∈ ts))) := by
  unfold inD; simp only []; rw [sh_tupI, sh_listT, Bool.and_self, if_pos rfl, inT_eq]
@[simp] theorem o_notInL {t : List Int} {ts : List (List Int)} : notInD (tupI t) (.list (ts.map tupI)) = some (.bool (!decide (t ∈ ts))) := by
  unfold notInD; simp only []; rw [sh_tupI, sh_listT, Bool.and_self, if_pos rfl, inT_eq]
@[simp] theorem o_inTT {t : List Int} {ts : List (List Int)} : inD (tupI t) (.tuple (ts.map tupI)) = some (.bool (decide (t ∈ ts))) := by
  unfold inD; simp only []; rw [sh_tupI, sh_listT, Bool.and_self, if_pos rfl, inT_eq]
@[simp] theorem o_notInTT {t : List Int} {ts : List (List Int)} : notInD (tupI t) (.tuple (ts.map tupI)) = some (.bool (!decide (t ∈ ts))) := by
  unfold notInD; simp only []; rw [sh_tupI, sh_listT, Bool.and_self, if_pos rfl, inT_eq]
/-! ### minus -/
theorem neg_pts {a b p : Int} (c : Cv p a b) {P : List Int} (hP : P ∈ ptsM a b p) : negM p P ∈ ptsM a b p := by
  have p0 := c.p0
  rcases mem_pts.mp hP with rfl | ⟨x, y, rfl, hx, hy, h⟩
  · exact hP
  · refine mem_pts.mpr (.inr ⟨x, -y % p, rfl, hx, md _ _ (by omega), ?_⟩)
    rw [← h]
    refine modeq ?_
    obtain ⟨k, hk⟩ := dvd_mod p (-y)
    have e : -y % p = -y - p * k := by omega
    rw [e]
    exact ⟨2 * y * k + p * k * k, by grind⟩
theorem plus_neg {a b p : Int} (c : Cv p a b) {P : List Int} (hP : P ∈ ptsM a b p) : plusM a p P (negM p P) = [] := by
  rcases mem_pts.mp hP with rfl | ⟨x, y, rfl, hx, hy, h⟩
  · rfl
  · have : (y + -y % p) % p = 0 := by
      obtain ⟨k, hk⟩ := dvd_mod p (-y)
      have e : -y % p = -y - p * k := by omega
      rw [e]
      exact Int.emod_eq_zero_of_dvd ⟨-k, by grind⟩
    simp [negM, plusM, this]
theorem pts_two {a b p : Int} {R : List Int} (h : R ∈ ptsM a b p) : R.length ≤ 2 := by
  rcases mem_pts.mp h with rfl | ⟨x, y, rfl, _⟩ <;> simp
end Pf

-- part Lm8
set_option maxHeartbeats 1000000
namespace Pf
open PySem Cc L2
/-! ### sums counted in codes -/
def plusN (p a inv c d : Nat) : Nat :=
  cond (Nat.beq c 0) d (cond (Nat.beq d 0) c (
    (fun x1 y1 x2 y2 => cond (Nat.beq x1 x2 && Nat.beq ((y1 + y2) % p) 0) 0
      ((fun s => (fun x3 => 1 + 32 * x3 + (s * (x1 + p - x3) + p - y1) % p) ((s * s + 2 * p - x1 - x2) % p))
        (cond (Nat.beq x1 x2) ((3 * x1 * x1 + a) * (Nat.shiftRight inv (5 * (2 * y1 % p)) % 32) % p) ((y2 + p - y1) * (Nat.shiftRight inv (5 * ((x2 + p - x1) % p)) % 32) % p))))
      ((c - 1) / 32) ((c - 1) % 32) ((d - 1) / 32) ((d - 1) % 32)))
def cd : List Int → Nat
  | [x, y] => 1 + 32 * x.toNat + y.toNat
  | _ => 0
def dc (c : Nat) : List Int := if c = 0 then [] else [(((c - 1) / 32 : Nat) : Int), (((c - 1) % 32 : Nat) : Int)]
theorem dc_cd {P : List Int} (h : P = [] ∨ ∃ x y : Nat, P = [(x : Int), (y : Int)] ∧ y < 32) : dc (cd P) = P := by
  rcases h with rfl | ⟨x, y, rfl, h⟩
  · rfl
  · have e1 : (32 * x + y) / 32 = x := by omega
    have e2 : (32 * x + y) % 32 = y := by omega
    have e : cd [(x : Int), (y : Int)] = 1 + 32 * x + y := rfl
    have e3 : 1 + 32 * x + y - 1 = 32 * x + y := by omega
    rw [e, dc, if_neg (by omega), e3, e1, e2]
theorem nb_t {x y : Nat} (h : x = y) : Nat.beq x y = true := by subst h; exact Nat.beq_refl x
theorem nb_f {x y : Nat} (h : x ≠ y) : Nat.beq x y = false := by
  cases e : Nat.beq x y
  · rfl
  · exact absurd (Nat.eq_of_beq_eq_true e) h
theorem cast_mod {x : Int} {z p : Nat} (h : x = (z : Int)) : x % (p : Int) = ((z % p : Nat) : Int) := by rw [h]; rfl
theorem cast_mod2 {x : Int} {z p : Nat} (h : (p : Int) ∣ x - (z : Int)) : x % (p : Int) = ((z % p : Nat) : Int) := (modeq h).trans rfl
theorem plusN_eq {p a inv : Nat} {b : Int} (hp : (p : Int) ∈ PR) (hi : ∀ t : Nat, t < p → ((Nat.shiftRight inv (5 * t) % 32 : Nat) : Int) = invM t p) {P Q : List Int} (hP : P ∈ ptsM a b p) (hQ : Q ∈ ptsM a b p) : plusN p a inv (cd P) (cd Q) = cd (plusM a p P Q) ∧ dc (cd (plusM a p P Q)) = plusM a p P Q := by
  have p0 := pr_b hp
  have pp : 0 < p := by omega
  have dP : ∀ {P : List Int}, P ∈ ptsM a b p → P = [] ∨ ∃ x y : Nat, P = [(x : Int), (y : Int)] ∧ x < p ∧ y < p ∧ (y : Int) * y % p = hgt a b p x := by
    intro P hP
    rcases mem_pts.mp hP with rfl | ⟨x, y, rfl, hx, hy, h⟩
    · exact .inl rfl
    · obtain ⟨x, rfl⟩ := Int.eq_ofNat_of_zero_le hx.1
      obtain ⟨y, rfl⟩ := Int.eq_ofNat_of_zero_le hy.1
      exact .inr ⟨x, y, rfl, by omega, by omega, h⟩
  rcases dP hP with rfl | ⟨x1, y1, rfl, hx1, hy1, h1⟩
  · refine ⟨rfl, dc_cd ?_⟩
    rcases dP hQ with rfl | ⟨x2, y2, rfl, hx2, hy2, h2⟩
    · exact .inl rfl
    · exact .inr ⟨x2, y2, rfl, by omega⟩
  rcases dP hQ with rfl | ⟨x2, y2, rfl, hx2, hy2, h2⟩
  · have e : cd [(x1 : Int), (y1 : Int)] = 1 + 32 * x1 + y1 := rfl
    refine ⟨?_, dc_cd (.inr ⟨x1, y1, rfl, by omega⟩)⟩
    show plusN p a inv (cd [(x1 : Int), (y1 : Int)]) 0 = cd [(x1 : Int), (y1 : Int)]
    rw [e, plusN]
    have : Nat.beq (1 + 32 * x1 + y1) 0 = false := nb_f (by omega)
    rw [this]; rfl
  have c1 : cd [(x1 : Int), (y1 : Int)] = 1 + 32 * x1 + y1 := rfl
  have c2 : cd [(x2 : Int), (y2 : Int)] = 1 + 32 * x2 + y2 := rfl
  have b1 : Nat.beq (1 + 32 * x1 + y1) 0 = false := nb_f (by omega)
  have b2 : Nat.beq (1 + 32 * x2 + y2) 0 = false := nb_f (by omega)
  have f1 : (1 + 32 * x1 + y1 - 1) / 32 = x1 := by omega
  have f2 : (1 + 32 * x1 + y1 - 1) % 32 = y1 := by omega
  have f3 : (1 + 32 * x2 + y2 - 1) / 32 = x2 := by omega
  have f4 : (1 + 32 * x2 + y2 - 1) % 32 = y2 := by omega
  rw [c1, c2, plusN, b1, b2]
  simp only [cond_false, f1, f2, f3, f4]
  by_cases e : x1 = x2 ∧ (y1 + y2) % p = 0
  · have q1 : Nat.beq x1 x2 = true := nb_t e.1
    have q2 : Nat.beq ((y1 + y2) % p) 0 = true := nb_t e.2
    have e' : (x1 : Int) = x2 ∧ ((y1 : Int) + y2) % p = 0 := ⟨by rw [e.1], (cast_mod (z := y1 + y2) (by push_cast; rfl)).trans (by rw [e.2]; rfl)⟩
    have : plusM a p [(x1 : Int), (y1 : Int)] [(x2 : Int), (y2 : Int)] = [] := by rw [plusM, if_pos e']
    rw [q1, q2, this]
    exact ⟨rfl, rfl⟩
  · have e' : ¬ ((x1 : Int) = x2 ∧ ((y1 : Int) + y2) % p = 0) := fun h => e ⟨by omega, by have := (cast_mod (z := y1 + y2) (p := p) (by push_cast; rfl)).symm.trans h.2; omega⟩
    have q : (Nat.beq x1 x2 && Nat.beq ((y1 + y2) % p) 0) = false := by
      rw [Bool.and_eq_false_iff]
      by_cases h : x1 = x2
      · exact .inr (nb_f fun z => e ⟨h, z⟩)
      · exact .inl (nb_f h)
    rw [q, cond_false]
    have hs : ∃ s : Nat, s < p ∧ slopeM a p x1 y1 x2 y2 = s ∧ (cond (Nat.beq x1 x2) ((3 * x1 * x1 + a) * (Nat.shiftRight inv (5 * (2 * y1 % p)) % 32) % p) ((y2 + p - y1) * (Nat.shiftRight inv (5 * ((x2 + p - x1) % p)) % 32) % p)) = s := by
      refine ⟨_, ?_, ?_, rfl⟩
      · cases Nat.beq x1 x2 <;> exact Nat.mod_lt _ pp
      · by_cases h : x1 = x2
        · have hy : (y1 : Int) = y2 := (sq_fact p hp y1 (mem_rng.mpr (by omega)) y2 (mem_rng.mpr (by omega)) (by rw [h1, h2, h])).resolve_right fun z => e' ⟨by rw [h], z⟩
          have q1 : Nat.beq x1 x2 = true := nb_t h
          rw [q1, cond_true, slopeM, if_pos ⟨by rw [h], hy⟩]
          have := hi (2 * y1 % p) (Nat.mod_lt _ pp)
          rw [show 2 * (y1 : Int) % p = ((2 * y1 % p : Nat) : Int) from cast_mod (by push_cast; rfl), ← this]
          exact cast_mod (by push_cast; rfl)
        · have q1 : Nat.beq x1 x2 = false := nb_f h
          rw [q1, cond_false, slopeM, if_neg fun z => h (by omega)]
          have := hi ((x2 + p - x1) % p) (Nat.mod_lt _ pp)
          rw [show ((x2 : Int) - x1) % p = (((x2 + p - x1) % p : Nat) : Int) from cast_mod2 ⟨-1, by omega⟩, ← this]
          refine cast_mod2 ?_
          generalize Nat.shiftRight inv (5 * ((x2 + p - x1) % p)) % 32 = v
          refine ⟨-v, ?_⟩
          have : ((y2 + p - y1 : Nat) : Int) = y2 + p - y1 := by omega
          rw [Int.natCast_mul, this]
          grind
    obtain ⟨s, sp, s1, s2⟩ := hs
    rw [s2, plusM, if_neg e', sumM, s1]
    have x3 : ((s : Int) * s - x1 - x2) % p = (((s * s + 2 * p - x1 - x2) % p : Nat) : Int) := by
      refine cast_mod2 ⟨-2, ?_⟩
      have : ((s * s + 2 * p - x1 - x2 : Nat) : Int) = s * s + 2 * p - x1 - x2 := by
        have : ((s * s : Nat) : Int) = s * s := by push_cast; rfl
        omega
      omega
    have x3b : (s * s + 2 * p - x1 - x2) % p < p := Nat.mod_lt _ pp
    rw [x3]
    generalize (s * s + 2 * p - x1 - x2) % p = z at x3b
    have y3 : ((s : Int) * (x1 - z) - y1) % p = (((s * (x1 + p - z) + p - y1) % p : Nat) : Int) := by
      refine cast_mod2 ⟨-(s + 1), ?_⟩
      have e2 : ((x1 + p - z : Nat) : Int) = x1 + p - z := by omega
      have e3 : ((s * (x1 + p - z) + p - y1 : Nat) : Int) = s * (x1 + p - z) + p - y1 := by
        rw [← e2]
        have : ((s * (x1 + p - z) : Nat) : Int) = s * (x1 + p - z : Nat) := by push_cast; rfl
        omega
      rw [e3]; grind
    have y3b : (s * (x1 + p - z) + p - y1) % p < p := Nat.mod_lt _ pp
    rw [y3]
    exact ⟨rfl, dc_cd (.inr ⟨_, _, rfl, by omega⟩)⟩
end Pf

-- part Lm9
set_option maxHeartbeats 1000000
namespace Pf
open PySem Cc L2
/-! ### a certificate of the group of a curve -/
def allN (f : Nat → Bool) : Nat → Bool
  | 0 => true
  | k + 1 => f k && allN f k
def anyN (f : Nat → Bool) : Nat → Bool
  | 0 => false
  | k + 1 => f k || anyN f k
theorem allN_all {f : Nat → Bool} : ∀ {n : Nat}, allN f n = true → ∀ k, k < n → f k = true
  | n + 1, h, k, hk => by
    rw [allN, Bool.and_eq_true] at h
    by_cases e : k = n
    · rw [e]; exact h.1
    · exact allN_all h.2 k (by omega)
theorem anyN_ex {f : Nat → Bool} : ∀ {n : Nat}, anyN f n = true → ∃ k, k < n ∧ f k = true
  | n + 1, h => by
    rw [anyN, Bool.or_eq_true] at h
    rcases h with h | h
    · exact ⟨n, by omega, h⟩
    · obtain ⟨k, hk, e⟩ := anyN_ex h
      exact ⟨k, by omega, e⟩
def getN (L k : Nat) : Nat := Nat.shiftRight L (11 * k) % 2048
def onN (p a b c : Nat) : Bool := cond (Nat.beq c 0) true
  ((fun x y => Nat.blt x p && (Nat.blt y p && Nat.beq (y * y % p) ((x * x * x + a * x + b) % p))) ((c - 1) / 32) ((c - 1) % 32))
def chk (p inv a b m n L : Nat) : Bool :=
  Nat.beq (getN L 0) 0 && (Nat.blt 0 m && (Nat.blt 0 n && (Nat.beq (n % m) 0 && (Nat.beq ((p - 1) % m) 0 && (
  allN (fun s => (fun c => onN p a b c && allN (fun t => (fun d => (Nat.beq s t || !Nat.beq c d) && Nat.beq (plusN p a inv c d) (getN L (((s / n + t / n) % m) * n + (s % n + t % n) % n))) (getN L t)) (m * n)) (getN L s)) (m * n) &&
  allN (fun x => (fun h => allN (fun y => !(Nat.beq (y * y % p) h) || anyN (fun s => Nat.beq (getN L s) (1 + 32 * x + y)) (m * n)) p) ((x * x * x + a * x + b) % p)) p)))))
structure Grp (p a b : Int) (m n : Nat) (φ : Nat → Nat → List Int) : Prop where
  m0 : 0 < m
  n0 : 0 < n
  mn : n % m = 0
  mp : (p.toNat - 1) % m = 0
  z : φ 0 0 = []
  pt : ∀ i j, i < m → j < n → φ i j ∈ ptsM a b p
  inj : ∀ i j k l, i < m → j < n → k < m → l < n → φ i j = φ k l → i = k ∧ j = l
  sur : ∀ P ∈ ptsM a b p, ∃ i j, i < m ∧ j < n ∧ P = φ i j
  add : ∀ i j k l, i < m → j < n → k < m → l < n → plusM a p (φ i j) (φ k l) = φ ((i + k) % m) ((j + l) % n)
theorem nbt {x y : Nat} (h : Nat.beq x y = true) : x = y := Nat.eq_of_beq_eq_true h
theorem nlt {x y : Nat} (h : Nat.blt x y = true) : x < y := Nat.le_of_ble_eq_true h
theorem cell_lt {i j m n : Nat} (hi : i < m) (hj : j < n) : i * n + j < m * n := by
  have : (i + 1) * n ≤ m * n := Nat.mul_le_mul_right n hi
  have : (i + 1) * n = i * n + n := by rw [Nat.add_mul, Nat.one_mul]
  omega
theorem cell_div {i j n : Nat} (hj : j < n) : (i * n + j) / n = i := by
  rw [Nat.add_comm, Nat.add_mul_div_right _ _ (by omega), Nat.div_eq_of_lt hj, Nat.zero_add]
theorem cell_mod {i j n : Nat} (hj : j < n) : (i * n + j) % n = j := by
  rw [Nat.add_comm, Nat.add_mul_mod_self_right, Nat.mod_eq_of_lt hj]
theorem hgt_nat (a b p x : Nat) : hgt a b p x = (((x * x * x + a * x + b) % p : Nat) : Int) := cast_mod (by push_cast; rfl)
theorem onN_pt {p a b c : Nat} (h : onN p a b c = true) : dc c ∈ ptsM a b p ∧ (c = 0 ∨ c = cd (dc c)) := by
  unfold onN at h
  by_cases e : c = 0
  · subst e; exact ⟨mem_pts.mpr (.inl rfl), .inl rfl⟩
  · rw [nb_f e, cond_false, Bool.and_eq_true, Bool.and_eq_true] at h
    obtain ⟨hx, hy, hh⟩ := h
    have hx := nlt hx; have hy := nlt hy; have hh := nbt hh
    rw [dc, if_neg e]
    refine ⟨mem_pts.mpr (.inr ⟨_, _, rfl, by omega, by omega, ?_⟩), .inr ?_⟩
    · rw [hgt_nat, ← hh]
      exact cast_mod (by push_cast; rfl)
    · show c = 1 + 32 * ((c - 1) / 32) + (c - 1) % 32
      omega
theorem chk_grp {p inv a b m n L : Nat} (hp : (p : Int) ∈ PR) (hi : ∀ t : Nat, t < p → ((Nat.shiftRight inv (5 * t) % 32 : Nat) : Int) = invM t p) (h : chk p inv a b m n L = true) : Grp p a b m n fun i j => dc (getN L (i * n + j)) := by
  have p0 := pr_b hp
  unfold chk at h
  simp only [Bool.and_eq_true] at h
  obtain ⟨hz, hm, hn, hnm, hpm, hs, hx⟩ := h
  have hm := nlt hm; have hn := nlt hn
  have hs := allN_all hs; have hx := allN_all hx
  have on : ∀ i j, i < m → j < n → dc (getN L (i * n + j)) ∈ ptsM a b p ∧ cd (dc (getN L (i * n + j))) = getN L (i * n + j) := by
    intro i j hi hj
    have := hs _ (cell_lt hi hj)
    rw [Bool.and_eq_true] at this
    have := onN_pt this.1
    refine ⟨this.1, ?_⟩
    rcases this.2 with e | e
    · rw [e]; rfl
    · exact e.symm
  have pair : ∀ i j k l, i < m → j < n → k < m → l < n → (i * n + j = k * n + l ∨ getN L (i * n + j) ≠ getN L (k * n + l)) ∧ plusN p a inv (getN L (i * n + j)) (getN L (k * n + l)) = getN L ((i + k) % m * n + (j + l) % n) := by
    intro i j k l hi hj hk hl
    have := hs _ (cell_lt hi hj)
    rw [Bool.and_eq_true] at this
    have := allN_all this.2 _ (cell_lt hk hl)
    rw [Bool.and_eq_true, Bool.or_eq_true, cell_div hj, cell_mod hj, cell_div hl, cell_mod hl] at this
    refine ⟨?_, nbt this.2⟩
    rcases this.1 with e | e
    · exact .inl (nbt e)
    · refine .inr fun q => ?_
      rw [nb_t q] at e
      cases e
  refine ⟨hm, hn, nbt hnm, nbt hpm, ?_, fun i j hi hj => (on i j hi hj).1, ?_, ?_, ?_⟩
  · show dc (getN L (0 * n + 0)) = []
    rw [Nat.zero_mul, nbt hz]; rfl
  · intro i j k l hi hj hk hl e
    have e2 := congrArg cd e
    rw [(on i j hi hj).2, (on k l hk hl).2] at e2
    have e3 := (pair i j k l hi hj hk hl).1.resolve_right fun q => q e2
    have f1 := congrArg (· / n) e3
    have f2 := congrArg (· % n) e3
    simp only [cell_div hj, cell_div hl] at f1
    simp only [cell_mod hj, cell_mod hl] at f2
    exact ⟨f1, f2⟩
  · intro P hP
    have key : ∀ s, s < m * n → P = dc (getN L s) → ∃ i j, i < m ∧ j < n ∧ P = dc (getN L (i * n + j)) := by
      intro s hs e
      refine ⟨s / n, s % n, Nat.div_lt_of_lt_mul (by rw [Nat.mul_comm]; exact hs), Nat.mod_lt _ hn, ?_⟩
      rw [Nat.mul_comm, Nat.div_add_mod]
      exact e
    rcases mem_pts.mp hP with rfl | ⟨x, y, rfl, hx0, hy0, hh⟩
    · exact key 0 (Nat.mul_pos hm hn) (by rw [nbt hz]; rfl)
    · obtain ⟨x, rfl⟩ := Int.eq_ofNat_of_zero_le hx0.1
      obtain ⟨y, rfl⟩ := Int.eq_ofNat_of_zero_le hy0.1
      have := allN_all (hx x (by omega)) y (by omega)
      rw [Bool.or_eq_true] at this
      have hq : y * y % p = (x * x * x + a * x + b) % p := by
        rw [hgt_nat, cast_mod (z := y * y) (by push_cast; rfl)] at hh
        exact Int.ofNat.inj hh
      rcases this with e | e
      · rw [nb_t hq] at e; cases e
      · obtain ⟨s, hs, e⟩ := anyN_ex e
        refine key s hs ?_
        have : cd [(x : Int), (y : Int)] = 1 + 32 * x + y := rfl
        rw [nbt e, ← this, dc_cd (.inr ⟨x, y, rfl, by omega⟩)]
  · intro i j k l hi' hj hk hl
    have e := plusN_eq (b := b) hp hi (on i j hi' hj).1 (on k l hk hl).1
    rw [(on i j hi' hj).2, (on k l hk hl).2, (pair i j k l hi' hj hk hl).2] at e
    rw [e.1]; exact e.2.symm
end Pf

-- part Lm10
set_option maxHeartbeats 1000000
namespace Pf
open PySem Cc L2
/-! ### every curve is one of the kinds, moved -/
abbrev Kd := Nat × Nat × Nat × Nat × Nat
def getK : List Kd → Nat → Kd
  | [], _ => (0, 0, 0, 0, 0)
  | k :: _, 0 => k
  | _ :: ks, i + 1 => getK ks i
theorem getK_mem : ∀ {ks : List Kd} {i : Nat}, getK ks i ∈ ks ∨ getK ks i = (0, 0, 0, 0, 0)
  | [], _ => .inr rfl
  | k :: ks, 0 => .inl List.mem_cons_self
  | k :: ks, i + 1 => by
    rcases getK_mem (ks := ks) (i := i) with h | h
    · exact .inl (List.mem_cons_of_mem _ h)
    · exact .inr h
def phiK (k : Kd) : Nat → Nat → List Int := fun i j => dc (getN k.2.2.2.2 (i * k.2.2.2.1 + j))
def kchk (p inv : Nat) (k : Kd) : Bool := !(Nat.beq ((4 * k.1 * k.1 * k.1 + 27 * k.2.1 * k.2.1) % p) 0) && (Nat.blt k.1 p && (Nat.blt k.2.1 p && chk p inv k.1 k.2.1 k.2.2.1 k.2.2.2.1 k.2.2.2.2))
def cutN (L k : Nat) : Nat := Nat.shiftRight L (12 * k) % 4096
def cov (p : Nat) (K : List Kd) (T : Nat) : Bool := allN (fun a => allN (fun b => Nat.beq ((4 * a * a * a + 27 * b * b) % p) 0 || (fun e => (fun u k => Nat.blt 0 u && (Nat.blt u p && (Nat.beq (u * u * u * u * k.1 % p) a && Nat.beq (u * u * u * u * u * u * k.2.1 % p) b))) (e % 32) (getK K (e / 32))) (cutN T (a * p + b))) p) p
theorem good_nat {p a b : Nat} : goodM a b p = !(Nat.beq ((4 * a * a * a + 27 * b * b) % p) 0) := by
  unfold goodM
  rw [cast_mod (z := 4 * a * a * a + 27 * b * b) (by push_cast; rfl)]
  cases h : Nat.beq ((4 * a * a * a + 27 * b * b) % p) 0
  · have : (4 * a * a * a + 27 * b * b) % p ≠ 0 := fun z => by rw [nb_t z] at h; cases h
    simpa using fun z : (((4 * a * a * a + 27 * b * b) % p : Nat) : Int) = 0 => this (by omega)
  · simp [nbt h]
/-- the curve is the kind k of the list K, moved by u -/
structure Kind (K : List Kd) (p a b u : Int) (k : Kd) : Prop where
  mem : k ∈ K
  cv : Cv p (k.1 : Nat) (k.2.1 : Nat)
  ur : 1 ≤ u ∧ u < p
  ha : u * u * u * u * (k.1 : Nat) % p = a
  hb : u * u * u * u * u * u * (k.2.1 : Nat) % p = b
  grp : Grp p (k.1 : Nat) (k.2.1 : Nat) k.2.2.1 k.2.2.2.1 (phiK k)
theorem kind_with {p inv T : Nat} {K : List Kd} (hp : (p : Int) ∈ PR) (hi : ∀ t : Nat, t < p → ((Nat.shiftRight inv (5 * t) % 32 : Nat) : Int) = invM t p) (hK : K.all (kchk p inv) = true) (hT : cov p K T = true) {a b : Int} (c : Cv p a b) : ∃ u k, Kind K p a b u k := by
  have p0 := pr_b hp
  obtain ⟨a, rfl⟩ := Int.eq_ofNat_of_zero_le c.a0
  obtain ⟨b, rfl⟩ := Int.eq_ofNat_of_zero_le c.b0
  have a1 := c.a1; have b1 := c.b1
  have g := c.gd
  rw [good_nat] at g
  have h := allN_all (allN_all hT a (by omega)) b (by omega)
  rw [Bool.or_eq_true] at h
  have h := h.resolve_left fun z => by rw [z] at g; cases g
  simp only [Bool.and_eq_true] at h
  obtain ⟨u0, u1, ha, hb⟩ := h
  have u0 := nlt u0; have u1 := nlt u1
  have ha := nbt ha; have hb := nbt hb
  generalize cutN T (a * p + b) % 32 = u at u0 u1 ha hb
  rcases getK_mem (ks := K) (i := cutN T (a * p + b) / 32) with hm | hk
  · generalize getK K (cutN T (a * p + b) / 32) = k at ha hb hm
    have hk := List.all_eq_true.mp hK _ hm
    obtain ⟨a0, b0, m, n, L⟩ := k
    unfold kchk at hk
    simp only [Bool.and_eq_true] at hk ha hb
    obtain ⟨h1, h2, h3, h4⟩ := hk
    have h2 := nlt h2; have h3 := nlt h3
    refine ⟨u, (a0, b0, m, n, L), hm, ⟨hp, by omega, by dsimp only; omega, by omega, by dsimp only; omega, by rw [good_nat]; exact h1⟩, by omega, ?_, ?_, chk_grp hp hi h4⟩
    · rw [← ha]; exact cast_mod (by push_cast; rfl)
    · rw [← hb]; exact cast_mod (by push_cast; rfl)
  · rw [hk] at ha hb
    have ha : u * u * u * u * 0 % p = a := ha
    have hb : u * u * u * u * u * u * 0 % p = b := hb
    rw [Nat.mul_zero, Nat.zero_mod] at ha hb
    rw [← ha, ← hb] at g
    have : Nat.beq ((4 * 0 * 0 * 0 + 27 * 0 * 0) % p) 0 = true := nb_t (Nat.zero_mod p)
    rw [this] at g
    cases g
theorem all_app {f : Kd → Bool} {s t : List Kd} (h : s.all f = true) (k : t.all f = true) : (s ++ t).all f = true := by rw [List.all_append, h, k]; rfl

def K5_0 : List Kd := [(0, 1, 1, 6, 2449994489784309760),
  (0, 2, 1, 6, 4793572188706050048),
  (1, 0, 2, 2, 833496287232),
  (1, 1, 1, 9, 1567377419964330554976899072),
  (1, 2, 1, 4, 309778782208),
  (2, 0, 1, 2, 2048),
  (2, 1, 1, 7, 370197631855417626624),
  (3, 0, 1, 10, 43110967202037182295255130707968)]
theorem KC5_0 : K5_0.all (kchk 5 4262944) = true := by decide +kernel
def K5_1 : List Kd := [(3, 2, 1, 5, 651503866023936),
  (4, 0, 2, 4, 14969979141133906911301632),
  (4, 1, 1, 8, 765393531792215779577856),
  (4, 2, 1, 3, 423825408)]
theorem KC5_1 : K5_1.all (kchk 5 4262944) = true := by decide +kernel
def K5 : List Kd := K5_0 ++ (K5_1 ++ [])
theorem I5 : ∀ t : Nat, t < 5 → ((Nat.shiftRight 4262944 (5 * t) % 32 : Nat) : Int) = invM t 5 := by decide +kernel
theorem KC5 : K5.all (kchk 5 4262944) = true := all_app KC5_0 (all_app KC5_1 rfl)
theorem KT5 : cov 5 K5 160181074139414902636669679337964267224196504569255880900264307516250292119051533004312576 = true := by decide +kernel
def K7_0 : List Kd := [(0, 1, 2, 6, 183604931584104755853346116554979352576),
  (0, 2, 3, 3, 61612760886830761271588036608),
  (0, 3, 1, 13, 207415485866527264246280041135637920815104),
  (0, 4, 1, 3, 25171968),
  (0, 5, 1, 7, 7532255794556414662656),
  (0, 6, 2, 2, 1108374259712),
  (1, 0, 1, 8, 15265350676494239867805696),
  (1, 1, 1, 5, 123721121533952)]
theorem KC7_0 : K7_0.all (kchk 7 6545379360) = true := by decide +kernel
def K7_1 : List Kd := [(1, 3, 1, 6, 4867301865467154432),
  (1, 4, 1, 10, 3843828317267332601195469477888),
  (1, 6, 1, 11, 50668054860503008228040711407210496),
  (3, 0, 2, 4, 15576803161561846310311936),
  (3, 1, 1, 12, 188967155124245636273594939820579360768),
  (3, 2, 1, 9, 1557864140051133848927346688),
  (3, 3, 1, 6, 4793624690382086144),
  (3, 4, 1, 10, 44369652552426243210236752173056)]
theorem KC7_1 : K7_1.all (kchk 7 6545379360) = true := by decide +kernel
def K7_2 : List Kd := [(3, 5, 1, 7, 2737110015258950443008),
  (3, 6, 1, 4, 1692624363520)]
theorem KC7_2 : K7_2.all (kchk 7 6545379360) = true := by decide +kernel
def K7 : List Kd := K7_0 ++ (K7_1 ++ (K7_2 ++ []))
theorem I7 : ∀ t : Nat, t < 7 → ((Nat.shiftRight 6545379360 (5 * t) % 32 : Nat) : Int) = invM t 7 := by decide +kernel
theorem KC7 : K7.all (kchk 7 6545379360) = true := all_app KC7_0 (all_app KC7_1 (all_app KC7_2 rfl))
theorem KT7 : cov 7 K7 135073443378580412280418265870509142157703098271449421026333407439194865567814688895553689937930952757513063126036705465104545203571217948263740539539777241931878495947556130816 = true := by decide +kernel
def K11_0 : List Kd := [(0, 1, 1, 12, 614191707681063712572856843150987571200),
  (0, 2, 1, 12, 103983660527062185153387919220146253824),
  (1, 0, 1, 12, 619796896137333594450229016464810516480),
  (1, 1, 1, 14, 435436913155469787384925684822948278922457088),
  (1, 2, 2, 8, 13797376890659849325843120826486921835046308224831488),
  (1, 3, 1, 18, 33556288896548291717701469055260879823929313052125154316288),
  (1, 4, 1, 9, 3139588251268921193979189248),
  (1, 5, 1, 11, 10490543753928657059700506668050432)]
theorem KC11_0 : K11_0.all (kchk 11 11442894840928288) = true := by decide +kernel
def K11_1 : List Kd := [(1, 6, 1, 13, 392438952723600281518874238320931999197184),
  (1, 7, 1, 15, 2424269605491302424517366378936237912982567458816),
  (1, 8, 1, 6, 3752134017156327424),
  (1, 9, 2, 4, 39002108189266118711451648),
  (1, 10, 1, 10, 88115053892763314893094484447232),
  (2, 0, 2, 6, 616977433308650899003219208018820468736),
  (2, 1, 1, 16, 515250812731974696735435748458490675882128291401728),
  (2, 2, 1, 9, 12390151013781751264564029440)]
theorem KC11_1 : K11_1.all (kchk 11 11442894840928288) = true := by decide +kernel
def K11_2 : List Kd := [(2, 4, 1, 17, 962773043374577922606897548293039288800267317901531136),
  (2, 5, 1, 10, 5162844669138386599620206667776),
  (2, 6, 1, 14, 1550098573293426749061888839327382093577850880),
  (2, 7, 1, 7, 14916610490848508254208),
  (2, 9, 1, 15, 207330741457030339930020139421984349810111553536),
  (2, 10, 1, 8, 20569015787600404048783360)]
theorem KC11_2 : K11_2.all (kchk 11 11442894840928288) = true := by decide +kernel
def K11 : List Kd := K11_0 ++ (K11_1 ++ (K11_2 ++ []))
theorem I11 : ∀ t : Nat, t < 11 → ((Nat.shiftRight 11442894840928288 (5 * t) % 32 : Nat) : Int) = invM t 11 := by decide +kernel
theorem KC11 : K11.all (kchk 11 11442894840928288) = true := all_app KC11_0 (all_app KC11_1 (all_app KC11_2 rfl))
theorem KT11 : cov 11 K11 17587502108162557903065833941465814785472744421321543953340013298134193124159598345417667905239834889363311132136414451838174440844691483224416980220543857101603504717493550112938681589822812810704999993339498456436927564900034570502684597996867445864378037997198383225777549310938031003132845113105623696688198133884175142316719279089130465297644981113817790926332757965472184157280390108595447111275255614419386354480843465333275627520 = true := by decide +kernel
def K13_0 : List Kd := [(0, 1, 2, 6, 539879653970748673845787256027003101184),
  (0, 2, 1, 19, 16886795860185676073649405417368117018615994754777645213362176),
  (0, 3, 3, 3, 33469719036053894848835495936),
  (0, 4, 1, 21, 123324914607832178833372332506352805756909188947645057887569579225088),
  (0, 5, 4, 4, 16844084718253679121363813828896226726809204773099520),
  (0, 6, 1, 7, 5688985929512441221120),
  (1, 0, 2, 10, 191744739296539916771251549830264449031383000833702534708635777024),
  (1, 1, 1, 18, 8263407619936283445421655062960131176865408039655919659008)]
theorem KC13_0 : K13_0.all (kchk 13 14055845568507583520) = true := by decide +kernel
def K13_1 : List Kd := [(1, 2, 1, 12, 537102891989682550709782747246554916864),
  (1, 4, 1, 14, 860158033958182299256150823372610262483996672),
  (1, 5, 1, 9, 33163584395374763366179610624),
  (1, 6, 1, 13, 403673712399663800156819843722017463478272),
  (2, 0, 1, 10, 46390310707141193887577479983104),
  (2, 1, 1, 8, 1967096369677102466732032),
  (2, 2, 1, 15, 2444999019529084075414273963198796482845518012416),
  (2, 3, 1, 18, 26705665579972559363658178323473554280620309752386733488128)]
theorem KC13_1 : K13_1.all (kchk 13 14055845568507583520) = true := by decide +kernel
def K13_2 : List Kd := [(2, 4, 1, 17, 1164720643482825142920588305615008496414148611824162816),
  (2, 5, 1, 12, 202259500347237393294044459747567081472),
  (2, 6, 2, 8, 13899112566720854152399922665855294863795992498610176),
  (4, 0, 2, 4, 54425360438094163439921152),
  (4, 1, 1, 19, 5249656486282682218334216064298972595875356872920590104662016),
  (4, 3, 1, 16, 475217519214908361073637560790563805426465864951808),
  (4, 4, 1, 15, 274434958707344894797199235238503425800337889280),
  (4, 5, 1, 10, 25435370249143957273490946603008)]
theorem KC13_2 : K13_2.all (kchk 13 14055845568507583520) = true := by decide +kernel
def K13_3 : List Kd := [(4, 6, 1, 14, 837356733557654681846959646051005735005986816),
  (7, 0, 3, 6, 51013920156641487312990591928321249561659473155377319780352),
  (7, 1, 1, 16, 2017033259757687520694817538471910235563324151504896),
  (7, 2, 1, 10, 25426070586679358539125244377088),
  (7, 3, 1, 13, 54716607406816486873147415216668356388864),
  (7, 4, 2, 6, 792273269435516686000470031882881341440),
  (7, 5, 1, 20, 89810237257474175077487871401859672215129976855262938029004886016),
  (7, 6, 1, 11, 58621297517310262457858618594234368)]
theorem KC13_3 : K13_3.all (kchk 13 14055845568507583520) = true := by decide +kernel
def K13 : List Kd := K13_0 ++ (K13_1 ++ (K13_2 ++ (K13_3 ++ [])))
theorem I13 : ∀ t : Nat, t < 13 → ((Nat.shiftRight 14055845568507583520 (5 * t) % 32 : Nat) : Int) = invM t 13 := by decide +kernel
theorem KC13 : K13.all (kchk 13 14055845568507583520) = true := all_app KC13_0 (all_app KC13_1 (all_app KC13_2 (all_app KC13_3 rfl)))
theorem KT13 : cov 13 K13 4830658248719292863896723291374235768249387497206600915499919651491137252592853847973492911817776822265737650388985079379851076134403134171439647271700818769914117058238604793770587319868484305830204975197189639282192771152602591667166030532651082430584012249881956386198603232091731695572235359744717896701457080360064727598448952451589756345780410647470207922752018830034431628285678969467222023885751092589508875182028565998049104327787787111023081521446445942248821586145112902533258815604005574288614863722573749854727185124117528628404911037337990624027647436650811849013920396140261401312336996930162688 = true := by decide +kernel
def K17_0 : List Kd := [(0, 1, 1, 18, 39645950680684566358616830196472136894358466820194773125120),
  (0, 3, 1, 18, 20822118915965184010611777042986473399498864696205703858176),
  (1, 0, 4, 4, 21097168427858872435658594690540997442014560972257280),
  (1, 1, 1, 18, 3376189544065308587505056429071153449176994654352249458688),
  (1, 2, 1, 24, 2461318023570711570941234806016254317117565135396095285144948339796860224227328),
  (1, 3, 1, 17, 7106464070062469955120977028970944474173817317239179264),
  (1, 4, 1, 14, 181232892098556883541474543606615433359136768),
  (1, 5, 1, 15, 1716656513096332218828166682654546487225098584064)]
theorem KC17_0 : K17_0.all (kchk 17 19658190697734245193032736) = true := by decide +kernel
def K17_1 : List Kd := [(1, 6, 1, 20, 64294490741599719599087882533295720622822916891480892169976424448),
  (1, 7, 2, 6, 431181474889634925617036046180754202624),
  (1, 8, 1, 25, 389308694749867803127054217399476606359827128448952356882286295019740306748747776),
  (2, 0, 2, 10, 329981604767447443470371327443657920262262267376268511627371030528),
  (2, 1, 2, 12, 7529737054723310913275325361503332439699819481451935938584349668970855944687616),
  (2, 2, 1, 19, 4880662596398164067445528211930328706599005731519312387127296),
  (2, 3, 1, 22, 259575664411386362522909467385936827097766088744616627476214173912940544),
  (2, 4, 1, 16, 3659217787068207094713290740475882983271246602577920)]
theorem KC17_1 : K17_1.all (kchk 17 19658190697734245193032736) = true := by decide +kernel
def K17_2 : List Kd := [(2, 5, 1, 18, 34558565204024614439290012199512038650825000785510884775936),
  (2, 6, 1, 11, 61051451523714063801244297812058112),
  (2, 7, 1, 12, 715223650155289543102508168360430678016),
  (2, 8, 1, 21, 22307364168209787551195690933187200821805796332138223751123647344640),
  (3, 0, 1, 26, 6569285908322847738120454700392634418482706741473845075361255552275466549662788564992),
  (3, 1, 1, 15, 1714294435786287475927385197255638872503070375936),
  (3, 2, 1, 16, 573160607908874926008388422615583717364247400822784),
  (3, 3, 1, 12, 1236610652897103734208165792104164757504)]
theorem KC17_2 : K17_2.all (kchk 17 19658190697734245193032736) = true := by decide +kernel
def K17_3 : List Kd := [(3, 4, 2, 10, 350525081445812433372633086914855413304200324576720365157728917504),
  (3, 5, 1, 23, 333941229821017462063470334310486359118401246356560877831694631744498114560),
  (3, 6, 1, 21, 344088261030623117336269723455929740409539671470916583026945687959552),
  (3, 7, 1, 14, 1238128063468501009212624584394093077194809344),
  (6, 0, 1, 10, 109112404257594023842001528895488),
  (6, 1, 1, 22, 155318341838080364491628133993249704252411433439777002772823529251483648),
  (6, 2, 1, 24, 176664184696586623471064569365112357712670971886269957059218389104157433804800),
  (6, 3, 2, 8, 18064391844070392208053009149300072090848953727727616)]
theorem KC17_3 : K17_3.all (kchk 17 19658190697734245193032736) = true := by decide +kernel
def K17_4 : List Kd := [(6, 4, 1, 15, 2448276178137763963319549651066494118970792296448),
  (6, 5, 1, 21, 129860895310893684777653481829501252789127818931754546191178720751616),
  (6, 7, 1, 20, 144175751276467589379589412285294915119107240284986443981700538368),
  (6, 8, 1, 13, 72145312426290748379530158709657208631296)]
theorem KC17_4 : K17_4.all (kchk 17 19658190697734245193032736) = true := by decide +kernel
def K17 : List Kd := K17_0 ++ (K17_1 ++ (K17_2 ++ (K17_3 ++ (K17_4 ++ []))))
theorem I17 : ∀ t : Nat, t < 17 → ((Nat.shiftRight 19658190697734245193032736 (5 * t) % 32 : Nat) : Int) = invM t 17 := by decide +kernel
theorem KC17 : K17.all (kchk 17 19658190697734245193032736) = true := all_app KC17_0 (all_app KC17_1 (all_app KC17_2 (all_app KC17_3 (all_app KC17_4 rfl))))
theorem KT17 : cov 17 K17 45800360063648573035036756961933700797531140488670634866680032767835584596504678739308510464735385839931700221988998215477041565687112249230443515609167533867469901384970809312789606331392372114146774136624288134699266303158137758164474138867533883506455589789489371740007627437799339847911617892795737612494337629724971127661567887007068133867923508712814666660591966393744700451945240986233739084851803808783108945224591847963822585147713905975314375374888229411610653678016556194153560358345929847640317704342212604684851552053805930377224512708457665616104110925218858774692450059223855375255057491199003945728492200880189663735143946685834745178862453300113803587989642669018565381474447751940190317986572989394692270444191265134649042820198080912476106256019352046709650998480060030354515114331166536399288955218815698299335508543193234647035700534152717983748422886323561962142700985400193651794743770643389665682347832834122561793243706211649060505097209994883205531937514793395577568347133816676555195555900092949752074418407841206272 = true := by decide +kernel
def K19_0 : List Kd := [(0, 1, 2, 6, 1236312087559215805810205415438479925248),
  (0, 2, 1, 13, 790991950302411944284125638762238864269312),
  (0, 4, 1, 21, 237983582174240426590606111486988485446011122874628480532114877726720),
  (0, 5, 3, 9, 64305144840336655758880016197324511075933788396097358718091752990101943991056012025081856),
  (0, 8, 2, 14, 82050649363001842531669755913668083113459611779132462736821488084163173643933873953086447616),
  (0, 10, 1, 19, 18135939117686728332667680715744706227377402332928500297711616),
  (1, 0, 1, 20, 89905424022325133871722899839690089981047237398928248653018775552),
  (1, 1, 1, 21, 32158295283698050413965469727667062105378391994392518903336022315008)]
theorem KC19_0 : K19_0.all (kchk 19 22638891632182839668781787168) = true := by decide +kernel
def K19_1 : List Kd := [(1, 2, 1, 12, 1220659696397220522047179349366773010432),
  (1, 4, 1, 19, 7271647203601953985898134480144003607935123560514772250138624),
  (1, 5, 1, 15, 251653369362188617515956785722365240600432758784),
  (1, 6, 1, 18, 2955996080349025931584622873793197374671549552315517120512),
  (1, 7, 1, 18, 2407559568823258844662550640951319085474423476311671457792),
  (1, 8, 2, 12, 7978440034673518049828222084353737492519447216518967710729686436146620639039488),
  (1, 9, 1, 26, 2738731444521419304749821767533794667615159383478042809206787918624491538593098055680),
  (1, 10, 1, 14, 2342499518208446991847430423068284050217506816)]
theorem KC19_1 : K19_1.all (kchk 19 22638891632182839668781787168) = true := by decide +kernel
def K19_2 : List Kd := [(1, 11, 2, 8, 16602847757620220664875439346774105492239671192080384),
  (1, 12, 1, 22, 393698223175862612208458225887533281276613445077837271146878025110591488),
  (1, 13, 1, 22, 283152062937878140006874709312066960090281993073062914860646658612533248),
  (1, 14, 1, 25, 1424330066243404286979214627227539056943176516856859675821125906064015526325200896),
  (1, 15, 1, 21, 133301695515129188291680782567820858268656566421675912914434131111936),
  (1, 17, 1, 28, 3593417859290369644128919552968046871646491888766542202930641775938583533875590373415335936),
  (1, 18, 1, 19, 20501839828479370751788851401255285869833231025377540476833792),
  (2, 0, 2, 10, 397622834301298844626540891944549186554691459380861281842571587584)]
theorem KC19_2 : K19_2.all (kchk 19 22638891632182839668781787168) = true := by decide +kernel
def K19_3 : List Kd := [(2, 1, 1, 27, 17939030994828977812383782683722977211770772537020131835509495343655942446360186247718912),
  (2, 2, 1, 24, 1623684778946381056010311088309692475995539800887454505302235563236819772581888),
  (2, 3, 1, 20, 38710813461965077570542582009230657346187108023601984625094766592),
  (2, 4, 2, 12, 640504392585099237340984709085227992800041514384487008174566507751748336097280),
  (2, 5, 1, 26, 4735583985773414860812769125865987205942226523757717486179567687330296405582212642816),
  (2, 6, 1, 16, 2302280834447540721315130271722393932919546983817216),
  (2, 7, 1, 22, 611780491398554577517125452687148047343163525957876541069170940708200448),
  (2, 8, 1, 15, 1034153775393803296740710111148346202930414698496)]
theorem KC19_3 : K19_3.all (kchk 19 22638891632182839668781787168) = true := by decide +kernel
def K19_4 : List Kd := [(2, 9, 1, 23, 122078484027582065628810689831409626380072301807684555891505594678953123840),
  (2, 10, 1, 17, 10276066813159907040601617852998042001411767922233397248),
  (2, 11, 1, 25, 388730857594482429706986553850708718168392913183011888470003252542445817176276992),
  (2, 12, 3, 6, 76316092196972143253825249574298203369445878353008777637888),
  (2, 13, 1, 24, 1143788000416080907550980149444013904145719847553913611172264294515489217064960),
  (2, 14, 1, 14, 1962717577925990986000621368589263677491062784),
  (2, 15, 2, 8, 7816410213471638168456383027001736227041430187819008),
  (2, 16, 1, 20, 13247679856978845661495250996160411574664496501710364688861112320)]
theorem KC19_4 : K19_4.all (kchk 19 22638891632182839668781787168) = true := by decide +kernel
def K19_5 : List Kd := [(2, 17, 1, 16, 661746716656848513972086915371828289609446604158976),
  (2, 18, 1, 13, 420597191518973631081849714480264327086080)]
theorem KC19_5 : K19_5.all (kchk 19 22638891632182839668781787168) = true := by decide +kernel
def K19 : List Kd := K19_0 ++ (K19_1 ++ (K19_2 ++ (K19_3 ++ (K19_4 ++ (K19_5 ++ [])))))
theorem I19 : ∀ t : Nat, t < 19 → ((Nat.shiftRight 22638891632182839668781787168 (5 * t) % 32 : Nat) : Int) = invM t 19 := by decide +kernel
theorem KC19 : K19.all (kchk 19 22638891632182839668781787168) = true := all_app KC19_0 (all_app KC19_1 (all_app KC19_2 (all_app KC19_3 (all_app KC19_4 (all_app KC19_5 rfl)))))
theorem KT19 : cov 19 K19 31654284365275140587126626609961937570584383586885901512453182271267581518962116230985578584656371915204787622404240154457745396744086603812475967011121579080529547330851587715721216361143578381321313270854592616373951212995639608007071556774324253348424472649085978132986623572143484712652614058035735058502559499139195824022977277571351626120488917002405131820097542664963422942947560678719519404299353580511777562133432541235573543928078489997643408465081426792664080964708942948025787588490650277018756560088892649423458809001404385920447066047294323424052329892081714949057810524757974775525458041779650671384744728606737115598755931003490895416084132051309670292340976985743672239601499857515132179927041208067775494318185133241407634879593929892725481129011958957369873612174503350931564112160308115481901981599473675156187120400601434332834174809792055628031079904368573658853172743485250029395953577908793490665961421582020899044998782120870407462007316564856345345867131032550804309879891302531418924963552571691356287692195685315857382380742212477718165688800232536026151079802078511274968363737527967048746592774967872461875481865438597769086662258790975144890731812459499586999223320042608122183534113560256124187783390903782911049053005202858729911741284219407363577476144823160484474654720 = true := by decide +kernel
def K23_0 : List Kd := [(0, 1, 1, 24, 6281990540810179055933873248209645350183290565856022623342708064393916178053120),
  (0, 5, 1, 24, 653035785994960285803777539150817672694915388977982061714349366390468288536576),
  (1, 0, 1, 24, 5300472191171068696189994983030053700011628678410904120395118321257435758286848),
  (1, 1, 1, 28, 5880978109731117065022570287355514383333452724272496199313745765648268689872521105382576128),
  (1, 2, 2, 12, 1886040832247389088460653517410117377371009169613457081975744861607218687135744),
  (1, 3, 1, 27, 2118605818458860968134888005459731585924534999987669462704037273371694112349860904583168),
  (1, 4, 1, 29, 11581613675534593881077175571733402977840204573904917755755941486120122772279605360739666106368),
  (1, 5, 1, 22, 384048193136383900772809944499816933700839052894891891656851562212577280)]
theorem KC23_0 : K23_0.all (kchk 23 29023545824572045905382857152671776) = true := by decide +kernel
def K23_1 : List Kd := [(1, 6, 1, 21, 21940380876179258944171024829262243556033396858633856075188054024192),
  (1, 7, 1, 18, 46923966476349476544752320339578369182879966742114462027776),
  (1, 8, 2, 14, 182578445759364305571317824961650035072542848529245833619955372538347604838670826327408400384),
  (1, 9, 1, 20, 17492421385540588844567219285907346657458698096587590184170692608),
  (1, 10, 1, 32, 803392777749702121722548648442376332153068176951636422800231679023896427833995448728528168390174223708160),
  (1, 11, 1, 33, 461047577937963936827385702173039117409837565330628093044239874806145085131880004926914775404256400504862720),
  (1, 12, 1, 15, 4158533569588961756300336764852901322374135486464),
  (1, 13, 1, 16, 845098169841761533761316970076239175612949663332352)]
theorem KC23_1 : K23_1.all (kchk 23 29023545824572045905382857152671776) = true := by decide +kernel
def K23_2 : List Kd := [(1, 14, 1, 28, 22239077397694623171330383548227684689690263505634511544163707068952882784388994938542624768),
  (1, 15, 2, 10, 374460046257563982312703946903912218143692635579627333620028551168),
  (1, 16, 1, 30, 51459412647562287023480407699005258163899672652431467342646032218791426568786126377990310972180480),
  (1, 17, 1, 27, 10708675422892585275011090778532572823041390514640938322098296189567802779583968496982016),
  (1, 18, 1, 26, 6981950503542630661430007216925508785654253299765359951166860380591930004958401998848),
  (1, 19, 1, 19, 30960495969699251189305542165602632823828896910890040299773952),
  (1, 20, 1, 21, 199362087776291383413317366088073262044262045626862581633004813359104),
  (1, 21, 2, 12, 5284655734942342932277185971654151332101091325711535417954017005376590185904128)]
theorem KC23_2 : K23_2.all (kchk 23 29023545824572045905382857152671776) = true := by decide +kernel
def K23_3 : List Kd := [(1, 22, 1, 20, 45278779414856596302749088176403046916748091596417347771189760000),
  (5, 0, 2, 12, 9583033762327359240586376981739482773499439913593446957723402425704488852924416),
  (5, 1, 1, 31, 50726716193208157952698148509357332137143907875466085550131178246308895630994180637400193870789087232),
  (5, 2, 1, 21, 32180404009058494808669583065373529003254464113263627339120508940288),
  (5, 3, 1, 23, 120643038818722247780724526349706481542585196719892585293593493193466331136),
  (5, 4, 1, 20, 228973533748501347355657673169364326381131253086376518252992403456),
  (5, 5, 1, 18, 85142603529613922220570911833724129716132820854246881441792),
  (5, 7, 1, 18, 16320232287334138786042869107163031817520451620500905537536)]
theorem KC23_3 : K23_3.all (kchk 23 29023545824572045905382857152671776) = true := by decide +kernel
def K23_4 : List Kd := [(5, 8, 2, 16, 1210536800777513785821497209546054232061335505708980752911686243501800698309703494212243529268687326435328),
  (5, 9, 1, 25, 627004786690843869175214952000975562707296706227827156611492237982630204862898176),
  (5, 10, 1, 26, 6623146412992490629663703756244457558643634337719676691375137119721721538749745291264),
  (5, 11, 1, 18, 28507964514874747034239958387641632967040593500414276812800),
  (5, 12, 1, 30, 16041384603221949965387384157237393853986318956561742590881269878023976197726320572222857879244800),
  (5, 13, 1, 22, 403884157083670463503130862235901591673417959509784583442612011906834432),
  (5, 14, 1, 23, 602967856572850727595288577629562094812293960261721922501354410948604076032),
  (5, 15, 2, 8, 27738161991243237333106837270772733357464270636652544)]
theorem KC23_4 : K23_4.all (kchk 23 29023545824572045905382857152671776) = true := by decide +kernel
def K23_5 : List Kd := [(5, 16, 1, 30, 151657806958941627028999589811516843798218463947947922704217643384297746133677792700247119109576704),
  (5, 18, 1, 30, 426501901270923276389205350977862343415559863954384389117205771765212128783395052969283244775985152),
  (5, 19, 1, 28, 60433623246480611496996832732214071783172352553510597473647061277399671266296584542779564032),
  (5, 20, 1, 25, 3443339587254816343651559128161411030099654147330993473120808052979914042715088896),
  (5, 21, 1, 27, 6718062600564724665077722470201946288159955585645935920081533002132353991116432590575616),
  (5, 22, 1, 17, 10759938515559614403393005210702767610440826908039137280)]
theorem KC23_5 : K23_5.all (kchk 23 29023545824572045905382857152671776) = true := by decide +kernel
def K23 : List Kd := K23_0 ++ (K23_1 ++ (K23_2 ++ (K23_3 ++ (K23_4 ++ (K23_5 ++ [])))))
theorem I23 : ∀ t : Nat, t < 23 → ((Nat.shiftRight 29023545824572045905382857152671776 (5 * t) % 32 : Nat) : Int) = invM t 23 := by decide +kernel
theorem KC23 : K23.all (kchk 23 29023545824572045905382857152671776) = true := all_app KC23_0 (all_app KC23_1 (all_app KC23_2 (all_app KC23_3 (all_app KC23_4 (all_app KC23_5 rfl)))))
theorem KT23 : cov 23 K23 58305227571721353758964020880465115820034181156032000085019246600841394413430548554936534974738951052526328440005703441087472976120957957998662181303831516766968103423134883739073979840534715496665338672830653801532214478544650512517146510252025006464772255392857245421234468100036070748703526165488233749387630608519010632845656646424144820906013910850946544455513043252004587403417854409035253009723653712894020637512709258299470672006356610116231732506889410905341693968537626502992711113186135682470705021007194307977681115674319197229599488669653260067067520197965430427183580701904725322368477621475009733855044379000198270270091095969437600978534153434607895291558340679855965999199204140176905344719849351771175717266762732971087116507904659233800803317847074636494828290232606650450020185097203325297441086046574898854426665239110701598790285829805650886415894861062453730468887037449680885850942713300983373374081700400633027408191720610701861511465277383735700649191206183088837577011754982123583234738600402448449387266529787775348386671297542478537932616547889643036620477625994172926248638488326182690292635502546985424136091765398872821996972917063667348404598879048456130901018513765870463954984575201611232765160515596862161122500466825103129747041735225974426111661165607222626524984911518108072865900114651368841953705613888688030259575434725639092979567356334923896331536147358135027193632533400718710245422443002497701830444842434737251990037948350502270489132793886889371304399252906586351127796520045371563207794866571339127657556095742347403328268786406641748848025879883225725103096008980573343874313716985654733146521753227805111892170097473562168759276508117851763271606961762455896433154568894122689085855157906483552287174290083532362141653139983381604571716026996118881716794516294970322865113473341543508374285724135638541014840573142536041741694678069366483089881573370105856 = true := by decide +kernel
def K29_0 : List Kd := [(0, 1, 1, 30, 266302278542520664033672670066403186014213494924941650258941687476892298255746331577079408418566144),
  (0, 2, 1, 30, 395438829842273913653523872932360212363198864369955869897412017619832755765119353658921555438823424),
  (1, 0, 2, 10, 275066983022043928828684196172578271496995735877360690872000385024),
  (1, 1, 1, 36, 21613308713450481968961980438043141075269922429935452586644903204419140073804874150855710116882717648342842607636342784),
  (1, 2, 2, 12, 8482939534789736022460222312497232471436459051692001390414438155445616995932160),
  (1, 3, 1, 36, 4047217714536858178410846371631417776585171966402314716227473421465846199447639436775050355963820353532183010697371648),
  (1, 4, 1, 33, 259775283035689995162721211453885297359641551261658883413752006634152698015278666344467463029517937480308736),
  (1, 5, 1, 30, 430595437582300009823453681153235650538074700090261876002224247634081955867189619583189923534757888)]
theorem KC29_0 : K29_0.all (kchk 29 39662280881016661725581869420540201712040992) = true := by decide +kernel
def K29_1 : List Kd := [(1, 6, 1, 38, 29748985561575014043684262254301487815949047786040772235386643716693100359906930499278520028560372129197921135836360456939520),
  (1, 7, 1, 35, 2283367923894798842541533631802352087251778479641413792393323352913528147935097225703749639401016762906945096065024),
  (1, 8, 1, 24, 1784679001149150703192916203053127927083736983824061528812704297458572118401024),
  (1, 9, 1, 33, 251340341237579942990642988084373232492296686961023149147264180417522321386333515848678198534315210793033728),
  (1, 10, 2, 14, 201963358072285930888308161964268926462070477779420087192446647865750644832364600527180546048),
  (1, 11, 1, 29, 27159403324627332727065576167241065222684720400178827496442056292926431635426244574336428103680),
  (1, 12, 1, 23, 567644676667308814814217856495115358784040434026368690990825977649461098496),
  (1, 13, 1, 22, 294640527337885780726384754552940003807528292986433167372317418940682240)]
theorem KC29_1 : K29_1.all (kchk 29 39662280881016661725581869420540201712040992) = true := by decide +kernel
def K29_2 : List Kd := [(1, 14, 1, 34, 3351923738211313106742048297911497974870816666045398958895675206317257049389206274670246461328655372289587898368),
  (2, 0, 1, 26, 7549752876289077129535669163914598891166236952381230426350309584223351677707733899264),
  (2, 1, 1, 33, 266203197029445075183013304527409231583961153172184434444028427501293722030816013796566255461872200469975040),
  (2, 2, 1, 21, 86492703581999983250609712642216180880447358505450307111490620055552),
  (2, 3, 1, 36, 4283320499564527906395407457934006899274515694069330221657569872315166218225875094284145554776052416468984019497863168),
  (2, 5, 1, 30, 394475509114570968404548266452477185256500371171352918800987557010961005077581749450445370461745152),
  (2, 6, 1, 32, 98912495547826969027467976404498969596512109338089640331052882042895470019424955414960961270932045842432),
  (2, 7, 1, 20, 205799080646240123485544425917917498326252016129299777209221195776)]
theorem KC29_2 : K29_2.all (kchk 29 39662280881016661725581869420540201712040992) = true := by decide +kernel
def K29_3 : List Kd := [(2, 8, 1, 29, 45581549290279566289447530023348074149877201173490234643605302222336992279558210158687496060928),
  (2, 9, 1, 28, 29629905155061589202261610448092330693255845561766638507071887792119058219728881276533561344),
  (2, 10, 2, 18, 53212718011425432328565356720855640802962179729197652808355246904366657395809186508979433670128809555976947211312834560),
  (2, 11, 1, 35, 3278288117286056788334466377712945158166317012597797806477926754846368052309416043553441328970470058002276361064448),
  (2, 12, 2, 14, 156694509928655604835054561809099506022707182893995306595000884084717022000574893306060894208),
  (2, 13, 1, 39, 13636720421644379595420707696910188733598807891821570113267990911864135039027118954811885680629341193617293490254040516255569920),
  (2, 14, 1, 26, 8868264661882531021579235570266431528777016673714985306592357605488590261330267891712),
  (4, 0, 2, 20, 565909751288122012318597146308347285917647236884988035232641931404370869523332212969123937774475130845123969503864716110341094275072)]
theorem KC29_3 : K29_3.all (kchk 29 39662280881016661725581869420540201712040992) = true := by decide +kernel
def K29_4 : List Kd := [(4, 1, 1, 31, 63578069786053739282402571461725291649713670987798613188036554041115280608856312218425119998727950336),
  (4, 2, 1, 25, 1663603365923630126101759079195577502903060879679814996854412360901827483008055296),
  (4, 3, 1, 27, 19074113257449407870320000307208312928453121866917046495406932517379842527832786447118336),
  (4, 4, 1, 26, 1700913943059052009491861340496860517434346042324301604401657665506343445630883469312),
  (4, 5, 1, 24, 3504211230134100653761792752947776058418132809562886084991253538052366026631168),
  (4, 6, 1, 36, 11520600927102847573484975283184667943533516138448330051770424610032978956342081504029282483760728370037108135982032896),
  (4, 7, 4, 8, 1014003411765665159509362788040242916151285735058381424951502036187538899423710064664306878478400656259072),
  (4, 8, 1, 24, 2272723918924210525864560558128174562526173538814937141400913287777668921823232)]
theorem KC29_4 : K29_4.all (kchk 29 39662280881016661725581869420540201712040992) = true := by decide +kernel
def K29_5 : List Kd := [(4, 9, 1, 37, 4417855913187570771463715992064322645908750889073540782103376132282727108105433533454774630332087402907478120745763086336),
  (4, 10, 1, 22, 870196747367593874133833268574076293016205302674031209913375793437153280),
  (4, 11, 1, 30, 62138224234758793374375725980460476712205373766525230140595500712924401709568707234873051757750272),
  (4, 12, 1, 38, 37162650328804529446944075781508324286583065667316031708110671105914395812266229702288761662848115338179047424332304866310144),
  (4, 13, 2, 18, 58959179969617115693573922175552742888197523729908936057386519380421353225548429150828662649447200324938473919238658048),
  (4, 14, 1, 27, 18925618605777674040475122359843387114909511917300338035428135838470212959285570179446784),
  (8, 0, 1, 34, 1523538270867573637687264126394429920526837757345764933571486513606210402647136599593066192941716092768647016448),
  (8, 1, 1, 25, 867168513256933087535177602503047248952965934124052572938259724042421553464348672)]
theorem KC29_5 : K29_5.all (kchk 29 39662280881016661725581869420540201712040992) = true := by decide +kernel
def K29_6 : List Kd := [(8, 2, 1, 40, 157257191464435175285954625167578215546758130240975431692703817749505683629750883758510584991531299113817040218033348314249398808576),
  (8, 4, 1, 34, 527349516736471628216724015351774570874854196341831323839762620800570160758320742311539381482296760908453517312),
  (8, 5, 1, 24, 2681932562982981646966112445065188250066824412939866661855125823697053032984576),
  (8, 6, 1, 31, 48892973808615788622830884197891446401971377115032534396993785228048071287001963871391842760990410752),
  (8, 7, 2, 12, 8395869100396660767032850472484699637924459052192944985159743750158604281329664),
  (8, 8, 1, 27, 31478404784726828718849599793739827815059475860053264946760178615155150646416876352507904),
  (8, 9, 2, 16, 2227129489716844991908291179801347577412367745162049049538892667968828629325633293147141091875949545396224),
  (8, 10, 1, 28, 48219479237598187223415213020135583266158024759841036111517791351120481967898324496927756288)]
theorem KC29_6 : K29_6.all (kchk 29 39662280881016661725581869420540201712040992) = true := by decide +kernel
def K29_7 : List Kd := [(8, 11, 1, 30, 59045849526561484210413199103705948507185129558000522776350669703809359842179162084072193211318272),
  (8, 12, 1, 21, 194290577242791940829478604153784067764103258206537941656533228281856),
  (8, 13, 1, 39, 13843871741665457175066234597083192867233143981609088918021353024870252148512469593457041530281815661646416955242203645221033984),
  (8, 14, 1, 32, 239399425977646766160432415160769377292015340161124531614748642960896146116759108293025636737847962718208)]
theorem KC29_7 : K29_7.all (kchk 29 39662280881016661725581869420540201712040992) = true := by decide +kernel
def K29 : List Kd := K29_0 ++ (K29_1 ++ (K29_2 ++ (K29_3 ++ (K29_4 ++ (K29_5 ++ (K29_6 ++ (K29_7 ++ [])))))))
theorem I29 : ∀ t : Nat, t < 29 → ((Nat.shiftRight 39662280881016661725581869420540201712040992 (5 * t) % 32 : Nat) : Int) = invM t 29 := by decide +kernel
theorem KC29 : K29.all (kchk 29 39662280881016661725581869420540201712040992) = true := all_app KC29_0 (all_app KC29_1 (all_app KC29_2 (all_app KC29_3 (all_app KC29_4 (all_app KC29_5 (all_app KC29_6 (all_app KC29_7 rfl)))))))
theorem KT29 : cov 29 K29 31097138543590294165810990578139831230604588310705631184529052598452612125825422143816736713705740125031483063247428099493293332772877876274641195525446157582852269441625186989920703527380107824739141481156812773595366174662072069452530969021524823985244988573449837600654996006841483722721963612800668626643852608540388371880721581806095576238731318497453447848302095082235433308551254366795745505789073304118382725597387988244814433783529174075702103996954703301550133231295820592296527216339565087721450702621410215108811467909547989870336409684727217922640808007141386857583934059100771278166593510984601544120517169822996046492333700037683479903216168812776952125649431509198216644651227203002122502473499582376569741085650320147762390604079129040296145360297632022260363406028127576706872987477686465393022384843242045275416447257324514071208404221658717457038725268343995389821085923626757417450942697579829422090133227767998919014629792652888547788600138876156536142571247644788060244782666477520725085429895947486942018187696836971152589311774994807057814216796308365697783914800219582207169838833894440267111687404434416651778064768106060654758398260558863315255034295277150476324461318029642500142129873346092306196205224293329008660384621487573517606925097490576850589235031853135888830838031216716754853435649642090204571255468931396090070723887493486581634406599610226479925648347802578992340937245793573342981360575364974625676456189370383692099203470855636812622166637263219779486588835514177446658955343143650039452477443526880080157527843545610110708859011375806259630377737362515498790702460872575308445842239447820726524248854437372201444230934963565769313375732843169706565815502891817639148128619570036731254062772101922837236191107589962032191987164219155731475491707518278265116983114000297349090403027463064578116310793064687947670980517613770574167168829094782410985423913731833744267105930505161520002702244590017676996808066346615535640942893467704175854582271249342698809021827592487584454752018296385224852637069518270469174005781709441975594624728909606841088321001131897539190499935160886062827583421510230512625134012425482665133331701182384124638850351739000370387084392036631320758709561321124058117768794320867098109911770316710428129717912321531797497224689255411710266096721507525457731267303888021269213280596662885825008613979119981021307609265135808537171325192944700960557812172122690374830198211792638197303422268443764082665263365710076496862108756362837550605161806891245988836063549653711832266799568720367120208654786398066507830118150055788790075345823137749195222890440671548433152169189820956997091956006392019675479932203095166800110720229724379616764952571023390734506065202170812705772216107058162826893550291955834401497415892287346033674326546706254846689397414111624817658172391630550576430673291348366251740870281412869682433275043756503100899437813556378454102836133573798724665006601341069408454214635409335674402882449436915295188845298714577454405902381084672203064844201496576 = true := by decide +kernel
def K31_0 : List Kd := [(0, 1, 6, 6, 57720020827329473261590387841454663667365903644987471160096084748789889888143423030960246030426936444361442368119982080),
  (0, 3, 1, 43, 741435668467721963877830826310640720401554913819170206632903271898168938992030535831283453072527133706994686679097233372672873914916111718400),
  (0, 5, 1, 39, 86279734464786583235199225344878661827007638059879530345932316667461722237212990465644096268900551603677005047872584431628914688),
  (0, 7, 1, 21, 82773350573163227941364933161190164847000215817493298392017146052608),
  (0, 11, 5, 5, 25732970801995501107008977206677944328747343760658273716333179344472341741220024320),
  (0, 15, 2, 14, 241921445264133829389277775321489303349799600011250069319126626439713134594009420323094603776),
  (1, 0, 1, 32, 977083011218596831765985810982421819105921508187417424195572591129158432452728585416273885140693065021440),
  (1, 2, 1, 24, 2562072145584904773617125433434777469780607762337110809301854216539826253299712)]
theorem KC31_0 : K31_0.all (kchk 31 43501401304021143424836518232835772945143611424) = true := by decide +kernel
def K31_1 : List Kd := [(1, 3, 1, 41, 164936690837676828255890216393530778150405570382414326231948665717539788303663718038183236297933706324870298770441126998252978209634304),
  (1, 4, 1, 26, 1823714970737709460376174523597443172942304898968721255827989851213731757280171399168),
  (1, 5, 1, 28, 6676462341010533696911297138520601671947030345160507540695975748982464598012224974725593088),
  (1, 6, 2, 16, 3592702091577705941665381387634536037631656997314814040271277119819861794847908964978838957254550415835136),
  (1, 7, 1, 36, 4840258868107210213390192404796184529826092151037339139340463113278513532835185721014246729726481860391587700923244544),
  (1, 8, 1, 35, 655019005605194296298758803583530334052055313842562844706526872370574282373044181623122531138137942375714617589760),
  (1, 9, 2, 18, 20891190994387510287748413902719388547879228101598283472354722615654952071377928104116928972813001830632246240199319552),
  (1, 10, 1, 42, 909869230741262052084603351359999354674990545191939747452231550506010883224924615079771078823296069529566828378830714762081882959801231360)]
theorem KC31_1 : K31_1.all (kchk 31 43501401304021143424836518232835772945143611424) = true := by decide +kernel
def K31_2 : List Kd := [(1, 11, 3, 12, 48804660692413503948768451709300807057371823632695202601552604911899070351733563028207131373895643075799678663243737088),
  (1, 12, 1, 27, 6372097500629745753212255980599932959920749304872011369017225090025671705002446023651328),
  (1, 13, 1, 34, 3439654814446081830546755461003603564951733992538168056731298843741936209699714103174672583370271338476566040576),
  (1, 14, 1, 39, 40686476094520309584987951322832636433216256822348677491786123169250519774381874540446747998693180059459412985913073860792625152),
  (1, 15, 1, 33, 839023601996564492088260452015237137519670568850166184611901661078461849575155720107144771316989808001298432),
  (1, 16, 1, 31, 61797516016403460407583614382713791698859016237566413452170265171434824933951513717754155699630254080),
  (1, 17, 1, 25, 1634281711667586016209594529210768325488342271453089139068627177653331262173171712),
  (1, 18, 1, 30, 570624179220664098047919699599690089257579268337157953220142482847863487613868224147023910218520576)]
theorem KC31_2 : K31_2.all (kchk 31 43501401304021143424836518232835772945143611424) = true := by decide +kernel
def K31_3 : List Kd := [(1, 19, 1, 37, 3763854058141410130539270819264342487706187382378242201007730154482898529659950030870462157960488954729008005454768394240),
  (1, 20, 1, 28, 55881519059730220624374075297134605770203609819486477091443943042693723144938496732854366208),
  (1, 21, 1, 22, 949683076953195398817606521741501019763028588540657119181328364159397888),
  (1, 22, 2, 14, 43832761491960413382657554892908337242571462269261896411108434567016821602650963486217211904),
  (1, 23, 1, 29, 30918921305224082854949408979442510142699712605874950341770610785934241298852422750946916904960),
  (1, 24, 1, 28, 63256561080816486651746472278186790920500890663826183614938602888436205551832900411284998144),
  (1, 25, 2, 16, 2268083504070592998569635675386496582842771829883339541626726602975077502971924035055444927108496681349120),
  (1, 26, 1, 36, 12543498845277529192450180479720225561016987521452646773071766397165466779052134766296535125515061482875872256513544192)]
theorem KC31_3 : K31_3.all (kchk 31 43501401304021143424836518232835772945143611424) = true := by decide +kernel
def K31_4 : List Kd := [(1, 27, 1, 38, 50330005050343518886665867754766352030188698258369676929675024542597989193451727669888784789507363062926509768795421151610880),
  (1, 28, 1, 23, 150438201509603434684250902604722433198336592725072536776773834079230517248),
  (1, 29, 1, 40, 219483107480377919056339807054782069504589267814165441656550720235709010616221875838064089439877142962412505195778561639983601686528),
  (3, 0, 2, 16, 462274030123296196479466762381807741321567302425370846165154506912576993793343969894492607606436067874816),
  (3, 1, 1, 39, 39333314497651997601533419025744883616142149266944565918270994917994773298877467709959536723427969041513157863843444004007000064),
  (3, 2, 1, 35, 926642396671143401145766967822915756186797339909874453397554354459952939193351030329001051048305743856629264173056),
  (3, 3, 1, 24, 1641502918141120171750444017028743717698838483468715671315309372638891220369408),
  (3, 4, 2, 20, 891876603496012699780375912939779062102483532847608568409835297273169113778167419659816073705337894940571211144963199770301907091456)]
theorem KC31_4 : K31_4.all (kchk 31 43501401304021143424836518232835772945143611424) = true := by decide +kernel
def K31_5 : List Kd := [(3, 5, 1, 38, 8607790250485373702069478608471111877257629768202320982229986519519689429952123414357190090940799471351024264383780695848960),
  (3, 6, 1, 33, 459046243604006761208900327852838943165219865847029366645462109273568879876707762267631595900687000526747648),
  (3, 7, 1, 22, 1292151829588950325424225728809825568521577620574595242337351784469321728),
  (3, 8, 1, 30, 18316749299974986563105822505866007265521637391032157732656198777662666364064968701385836266029056),
  (3, 9, 1, 32, 517256603687961203274453430082621675707986746521010464461806401440109185194973283824569670761527023726592),
  (3, 10, 1, 30, 19247997083068357458106986681596456665653332618944642802093756289965048935181093265407117765933056),
  (3, 11, 1, 37, 14702632565156478838270439554433744482327081842595069063298793632101451384683242846430169336279463910784575939056303747072),
  (3, 12, 1, 30, 474368221099793939910318678865563233716041828592459250115138920266859924083490110335751771019618304)]
theorem KC31_5 : K31_5.all (kchk 31 43501401304021143424836518232835772945143611424) = true := by decide +kernel
def K31_6 : List Kd := [(3, 13, 1, 27, 15088662725996972033418061104844250433800651064365367054636324924408951318244300465324032),
  (3, 14, 2, 20, 907289263173620915648485458202540675215591263270572742903579481077923216688084112143682050612795785053313174225657917396041844547584),
  (3, 15, 1, 28, 29590019260921346193876933227699469010114877291445060891993792862317026046277047415998736384),
  (3, 16, 1, 36, 4098005552156590138526170868579077561045498758774874716683969283450380823158072473343253354524357800027660903065413632),
  (3, 17, 2, 12, 3305970588896632780457897021522089781633643785192110265952177386441669846845440),
  (3, 18, 1, 37, 4047303833021695087625850288911243664969536663633016492882201684015954419499931772804711386120120509349267234121721069568),
  (3, 19, 1, 34, 439554797731809896335958516348930469134794314372532980883726635784951428812963474987147537969092092584806862848),
  (3, 20, 3, 9, 119996860983706912520676036604524948925753758706481614964123772811164086727742523873191936)]
theorem KC31_6 : K31_6.all (kchk 31 43501401304021143424836518232835772945143611424) = true := by decide +kernel
def K31_7 : List Kd := [(3, 21, 1, 34, 1112268231920184449521185363353192382609263569044619447492761495217327572743690056534028317055348564484155322368),
  (3, 22, 1, 32, 690703813583983510078680051976128245336933790023031409282305432482066898218631223791888067990059412109312),
  (3, 23, 1, 34, 3334088718993514951986151927480425224555358529800826905230189256276354174904144872392341644187290943966180376576),
  (3, 24, 1, 42, 310587708083484600746145331194013305213713872055460685233847227069103255633430734898631188381726960325362945606285686591219299179651227648),
  (3, 25, 1, 31, 59727885411176736833627723230555274080609267995660768788077169422033205556459658125919370558375473152),
  (3, 26, 1, 26, 5656086070462378082765555512808425833766373624043397477967848600673861213693510033408),
  (3, 27, 2, 12, 2114954087225597114701866953687943335037522971864378127429825031076992344330240),
  (3, 28, 1, 40, 29278336577132192281014514036677639292721864171709853542091570153012438468906560373055609078570708999364160643109935068709692399616)]
theorem KC31_7 : K31_7.all (kchk 31 43501401304021143424836518232835772945143611424) = true := by decide +kernel
def K31_8 : List Kd := [(3, 29, 1, 29, 29356554289615056904647956999152626291967348863827194132565116664153300381938427775038624188416),
  (3, 30, 1, 25, 3747903871463084464984380853439947371636403405068575701121141845611394751774529536)]
theorem KC31_8 : K31_8.all (kchk 31 43501401304021143424836518232835772945143611424) = true := by decide +kernel
def K31 : List Kd := K31_0 ++ (K31_1 ++ (K31_2 ++ (K31_3 ++ (K31_4 ++ (K31_5 ++ (K31_6 ++ (K31_7 ++ (K31_8 ++ []))))))))
theorem I31 : ∀ t : Nat, t < 31 → ((Nat.shiftRight 43501401304021143424836518232835772945143611424 (5 * t) % 32 : Nat) : Int) = invM t 31 := by decide +kernel
theorem KC31 : K31.all (kchk 31 43501401304021143424836518232835772945143611424) = true := all_app KC31_0 (all_app KC31_1 (all_app KC31_2 (all_app KC31_3 (all_app KC31_4 (all_app KC31_5 (all_app KC31_6 (all_app KC31_7 (all_app KC31_8 rfl))))))))
theorem KT31 : cov 31 K31 1512623312323814565749968427361925200049878350607010967505829558293925904383266840970545175361220583118230773956971923104039104852906121475146673514752933115857528585485581848911874143829474452096810017297627197708538063046421057217147005142980280361196502576187876712574582567945492292739087656549851470124380982881496475856579612114550784562337766749944947608185450673213116023818984072191498751466454583752752983883676076894749655241330041329497066961738489779870713688615317933856161152900036122380547153196563228609016048766999172331003863592828807136254023908398259807261998849415296670528592653943218054165165721679776553841856856926437464895125309065684735640181883175863627513657592435312154394820398157630766135429573403650166663235723385756588443538607793103729615639479755570168916548656852780422069899150225485946130934209248648813083337957552253726328570750839990588085130155219570289795950014106325526849740976147158230085828477156856115487156096240880228448371450104102278119872837538073374734606188568643822819488473193951374325898741938834282717356777896960526284342458292437733328671748005620357072222246609615474773531015822934471405804294735038991069234175852645443133260227479655035481544144112094418624696626982152863449947168015764781256296767427383883308317206128403629157078958987691967878109712786187486756714596623211301725256853118404319452819024606299135463301567851222206508465391063715832554374374104023383334317842748611519422528743714239635547002001706948767663880216878391811103095418340327139729649141183211577032287655540540509270089826622659999028836276465586781113972010000441707331054993137063961531831601996502012823409315402833862658847860785221991067773536692603593281137910764620284088670489610471552648952008844255049566521536971060033908340445646810295898917853806979079272400503126740661194014650851912613886676062635136047896804876901327578498759996405606310446291959089217404815923854458617904084905806213655784263082636206859709379230617600080678419388760003545987057504664222372177997017460697188470467384833262732045554028557314605417317976974308790946187544341235069249933855806464631656032874526052791086547676869236776611711558306339229951895735305187171377821913754776886679283755507961589391516874026832380340690868013073212512494851271763182088269702650863055429973868035743024305490620934146974989217547487075984072774960703328366235301445067300715533838231456342540771389173352862871771898002726154772002690594622382244827854104890598911293414812896601612320081663021268110750366185436418693759888317246510370863668532359938759053253977335131568016694102939859575492098008004116694796084051220311968005100610020158217315043222370041828630835912091945212826338592034089151809695440080387073981258716701724716044261337472934220872488928454582377140605459416468566121149469102657366832731248800087542001568725635898394781376213093735494892591615751637418132403629371216432352376712255100970802620619479437607586666706273919920848872526174567538200064122507515248317997864138018069293525354895034876516976834093105565117716639341173122934088916496752039339367408598056953016391118175380289367632296045430171632420428912987357206412220439492458603436097531173991282487968478008135367834562459956331426665479723470413127919157338970933817211794770422133416292990952232060124165468277900327985870833136222382955085010055262854418148931656930969764139049989620696132119356855156905924047434962216618367463452128797790208 = true := by decide +kernel
def KA : List (Nat × List Kd) := [(5, K5), (7, K7), (11, K11), (13, K13), (17, K17), (19, K19), (23, K23), (29, K29), (31, K31)]
theorem kind_of {p a b : Int} (c : Cv p a b) : ∃ (P : Nat) (K : List Kd) (u : Int) (k : Kd), (P, K) ∈ KA ∧ p = P ∧ Kind K p a b u k := by
  have h := c.pm
  have q : p = 5 ∨ p = 7 ∨ p = 11 ∨ p = 13 ∨ p = 17 ∨ p = 19 ∨ p = 23 ∨ p = 29 ∨ p = 31 := by simpa [PR] using h
  rcases q with rfl | rfl | rfl | rfl | rfl | rfl | rfl | rfl | rfl
  · obtain ⟨u, k, h⟩ := kind_with (p := 5) c.pm I5 KC5 KT5 c
    exact ⟨5, K5, u, k, List.mem_cons_self, rfl, h⟩
  · obtain ⟨u, k, h⟩ := kind_with (p := 7) c.pm I7 KC7 KT7 c
    exact ⟨7, K7, u, k, List.mem_cons_of_mem _ (List.mem_cons_self), rfl, h⟩
  · obtain ⟨u, k, h⟩ := kind_with (p := 11) c.pm I11 KC11 KT11 c
    exact ⟨11, K11, u, k, List.mem_cons_of_mem _ (List.mem_cons_of_mem _ (List.mem_cons_self)), rfl, h⟩
  · obtain ⟨u, k, h⟩ := kind_with (p := 13) c.pm I13 KC13 KT13 c
    exact ⟨13, K13, u, k, List.mem_cons_of_mem _ (List.mem_cons_of_mem _ (List.mem_cons_of_mem _ (List.mem_cons_self))), rfl, h⟩
  · obtain ⟨u, k, h⟩ := kind_with (p := 17) c.pm I17 KC17 KT17 c
    exact ⟨17, K17, u, k, List.mem_cons_of_mem _ (List.mem_cons_of_mem _ (List.mem_cons_of_mem _ (List.mem_cons_of_mem _ (List.mem_cons_self)))), rfl, h⟩
  · obtain ⟨u, k, h⟩ := kind_with (p := 19) c.pm I19 KC19 KT19 c
    exact ⟨19, K19, u, k, List.mem_cons_of_mem _ (List.mem_cons_of_mem _ (List.mem_cons_of_mem _ (List.mem_cons_of_mem _ (List.mem_cons_of_mem _ (List.mem_cons_self))))), rfl, h⟩
  · obtain ⟨u, k, h⟩ := kind_with (p := 23) c.pm I23 KC23 KT23 c
    exact ⟨23, K23, u, k, List.mem_cons_of_mem _ (List.mem_cons_of_mem _ (List.mem_cons_of_mem _ (List.mem_cons_of_mem _ (List.mem_cons_of_mem _ (List.mem_cons_of_mem _ (List.mem_cons_self)))))), rfl, h⟩
  · obtain ⟨u, k, h⟩ := kind_with (p := 29) c.pm I29 KC29 KT29 c
    exact ⟨29, K29, u, k, List.mem_cons_of_mem _ (List.mem_cons_of_mem _ (List.mem_cons_of_mem _ (List.mem_cons_of_mem _ (List.mem_cons_of_mem _ (List.mem_cons_of_mem _ (List.mem_cons_of_mem _ (List.mem_cons_self))))))), rfl, h⟩
  · obtain ⟨u, k, h⟩ := kind_with (p := 31) c.pm I31 KC31 KT31 c
    exact ⟨31, K31, u, k, List.mem_cons_of_mem _ (List.mem_cons_of_mem _ (List.mem_cons_of_mem _ (List.mem_cons_of_mem _ (List.mem_cons_of_mem _ (List.mem_cons_of_mem _ (List.mem_cons_of_mem _ (List.mem_cons_of_mem _ (List.mem_cons_self)))))))), rfl, h⟩
end Pf

-- part Lm11
set_option maxHeartbeats 2000000
namespace Pf
open PySem Cc L2
/-! ### points carried from a curve to one alike -/
theorem al1 {p u x x' X k k' : Int} (h : u * u * x - X = p * k) (h' : u * u * x' - X = p * k') : u * u * (x - x') = p * (k - k') := by grind
theorem al2 {p u y1 y2 Y1 Y2 l1 l2 k : Int} (r1 : u * u * u * y1 - Y1 = p * l1) (r2 : u * u * u * y2 - Y2 = p * l2) (h : Y1 + Y2 = p * k) : u * u * u * (y1 + y2) = p * (k + l1 + l2) := by grind
theorem al3 {p u y1 y2 Y1 Y2 l1 l2 k : Int} (r1 : u * u * u * y1 - Y1 = p * l1) (r2 : u * u * u * y2 - Y2 = p * l2) (h : y1 + y2 = p * k) : Y1 + Y2 = p * (u * u * u * k - l1 - l2) := by grind
theorem al4 {p u x1 y1 X1 Y1 k1 l1 k3 a a0 s S ks q : Int} (q1 : u * u * x1 - X1 = p * k1) (r1 : u * u * u * y1 - Y1 = p * l1) (q3 : u * u * u * u * a0 - a = p * k3) (hk : u * s - S = p * ks) (s1 : s * (2 * y1) - (3 * x1 * x1 + a0) = p * q) : S * (2 * Y1) - (3 * X1 * X1 + a) = p * (u * u * u * u * q - ks * (2 * Y1) - 2 * u * s * l1 + 3 * k1 * u * u * x1 + 3 * k1 * X1 + k3) := by
  have e1 : X1 = u * u * x1 - p * k1 := by omega
  have e2 : Y1 = u * u * u * y1 - p * l1 := by omega
  have e3 : a = u * u * u * u * a0 - p * k3 := by omega
  have e4 : S = u * s - p * ks := by omega
  subst e1 e2 e3 e4
  clear q1 r1 q3 hk
  have e : a0 = s * (2 * y1) - 3 * x1 * x1 - p * q := by omega
  subst e
  clear s1
  grind
theorem al5 {p u x1 y1 x2 y2 X1 Y1 X2 Y2 k1 l1 k2 l2 s S ks q : Int} (q1 : u * u * x1 - X1 = p * k1) (q2 : u * u * x2 - X2 = p * k2) (r1 : u * u * u * y1 - Y1 = p * l1) (r2 : u * u * u * y2 - Y2 = p * l2) (hk : u * s - S = p * ks) (s1 : s * (x2 - x1) - (y2 - y1) = p * q) : S * (X2 - X1) - (Y2 - Y1) = p * (u * u * u * q - ks * (X2 - X1) - u * s * (k2 - k1) + (l2 - l1)) := by
  have e1 : X1 = u * u * x1 - p * k1 := by omega
  have e2 : Y1 = u * u * u * y1 - p * l1 := by omega
  have e3 : X2 = u * u * x2 - p * k2 := by omega
  have e4 : Y2 = u * u * u * y2 - p * l2 := by omega
  have e5 : S = u * s - p * ks := by omega
  subst e1 e2 e3 e4 e5
  clear q1 r1 q2 r2 hk
  have e : y2 = s * (x2 - x1) + y1 - p * q := by omega
  subst e
  clear s1
  grind
theorem al6 {p u x1 x2 X1 X2 k1 k2 s S ks j x3 : Int} (q1 : u * u * x1 - X1 = p * k1) (q2 : u * u * x2 - X2 = p * k2) (hk : u * s - S = p * ks) (hj : s * s - x1 - x2 - x3 = p * j) : S * S - X1 - X2 - u * u * x3 = p * (- ks * (u * s) - ks * S + k1 + k2 + u * u * j) := by
  have e1 : X1 = u * u * x1 - p * k1 := by omega
  have e3 : X2 = u * u * x2 - p * k2 := by omega
  have e5 : S = u * s - p * ks := by omega
  have e6 : x3 = s * s - x1 - x2 - p * j := by omega
  subst e1 e3 e5 e6
  clear q1 q2 hk hj
  grind
theorem al7 {p u x1 y1 X1 Y1 k1 l1 s S ks j i x3 X3 y3 : Int} (q1 : u * u * x1 - X1 = p * k1) (r1 : u * u * u * y1 - Y1 = p * l1) (hk : u * s - S = p * ks) (hj : u * u * x3 - X3 = p * j) (hi : s * (x1 - x3) - y1 - y3 = p * i) : S * (X1 - X3) - Y1 - u * u * u * y3 = p * (u * u * u * i - ks * (X1 - X3) - u * s * (k1 - j) + l1) := by
  have e1 : X1 = u * u * x1 - p * k1 := by omega
  have e2 : Y1 = u * u * u * y1 - p * l1 := by omega
  have e3 : X3 = u * u * x3 - p * j := by omega
  have e5 : S = u * s - p * ks := by omega
  have e6 : y3 = s * (x1 - x3) - y1 - p * i := by omega
  subst e1 e2 e3 e5 e6
  clear q1 r1 hk hj hi
  grind
theorem al8 {p u x y a0 b0 X Y a b k1 k2 k3 k4 k5 : Int} (h1 : u * u * x - X = p * k1) (h2 : u * u * u * y - Y = p * k2) (h3 : u * u * u * u * a0 - a = p * k3) (h4 : u * u * u * u * u * u * b0 - b = p * k4) (h5 : y * y - (x * x * x + a0 * x + b0) = p * k5) : Y * Y - (X * X * X + a * X + b) = p * (u * u * u * u * u * u * k5 - 2 * u * u * u * y * k2 + p * k2 * k2 + 3 * (u * u * x) * (u * u * x) * k1 - 3 * (u * u * x) * p * k1 * k1 + p * p * k1 * k1 * k1 + u * u * x * k3 + u * u * u * u * a0 * k1 - p * k3 * k1 + k4) := by
  have eX : X = u * u * x - p * k1 := by omega
  have eY : Y = u * u * u * y - p * k2 := by omega
  have eA : a = u * u * u * u * a0 - p * k3 := by omega
  have eB : b = u * u * u * u * u * u * b0 - p * k4 := by omega
  subst eX eY eA eB
  clear h1 h2 h3 h4
  have e : b0 = y * y - (x * x * x + a0 * x) - p * k5 := by omega
  subst e
  clear h5
  grind
def carM (p u : Int) : List Int → List Int
  | [x, y] => [u * u * x % p, u * u * u * y % p]
  | _ => []
theorem inv_one {p u : Int} (hp : p ∈ PR) (hu : 1 ≤ u ∧ u < p) : p ∣ invM u p * u - 1 := by
  have h := inv_mul hp (by omega) hu.2 (show u ≠ 0 by omega)
  have := dvd_mod p (invM u p * u)
  rwa [h] at this
/-- u is cancelled -/
theorem can {p u x : Int} (hp : p ∈ PR) (hu : 1 ≤ u ∧ u < p) (h : p ∣ u * x) : p ∣ x := by
  obtain ⟨k, hk⟩ := inv_one hp hu
  obtain ⟨q, hq⟩ := h
  exact ⟨invM u p * q - k * x, by grind⟩
theorem can2 {p u x : Int} (hp : p ∈ PR) (hu : 1 ≤ u ∧ u < p) (h : p ∣ u * u * x) : p ∣ x := by
  rw [Int.mul_assoc] at h; exact can hp hu (can hp hu h)
theorem can3 {p u x : Int} (hp : p ∈ PR) (hu : 1 ≤ u ∧ u < p) (h : p ∣ u * u * u * x) : p ∣ x := by
  rw [Int.mul_assoc, Int.mul_assoc] at h; exact can hp hu (can hp hu (can hp hu h))
theorem small_eq {p x y : Int} (hx : 0 ≤ x ∧ x < p) (hy : 0 ≤ y ∧ y < p) (h : p ∣ x - y) : x = y := by
  have := modeq h
  rwa [Int.emod_eq_of_lt hx.1 hx.2, Int.emod_eq_of_lt hy.1 hy.2] at this
theorem car_pts {p a0 b0 u a b : Int} (c : Cv p a0 b0) (hu : 1 ≤ u ∧ u < p) (ha : u * u * u * u * a0 % p = a) (hb : u * u * u * u * u * u * b0 % p = b) {P : List Int} (hP : P ∈ ptsM a0 b0 p) : carM p u P ∈ ptsM a b p := by
  have p0 := c.p0
  rcases mem_pts.mp hP with rfl | ⟨x, y, rfl, hx, hy, h⟩
  · exact mem_pts.mpr (.inl rfl)
  · refine mem_pts.mpr (.inr ⟨_, _, rfl, md _ _ (by omega), md _ _ (by omega), ?_⟩)
    refine modeq ?_
    obtain ⟨k1, h1⟩ := dvd_mod p (u * u * x)
    obtain ⟨k2, h2⟩ := dvd_mod p (u * u * u * y)
    obtain ⟨k3, h3⟩ := dvd_mod p (u * u * u * u * a0)
    obtain ⟨k4, h4⟩ := dvd_mod p (u * u * u * u * u * u * b0)
    rw [ha] at h3; rw [hb] at h4
    have h5 : p ∣ y * y - (x * x * x + a0 * x + b0) := Int.dvd_of_emod_eq_zero (Int.emod_eq_emod_iff_emod_sub_eq_zero.mp h)
    obtain ⟨k5, h5⟩ := h5
    generalize u * u * x % p = X at h1 ⊢
    generalize u * u * u * y % p = Y at h2 ⊢
    exact ⟨_, al8 h1 h2 h3 h4 h5⟩
theorem slope_dvd {p a b x1 y1 x2 y2 : Int} (c : Cv p a b) (hx1 : 0 ≤ x1 ∧ x1 < p) (hx2 : 0 ≤ x2 ∧ x2 < p) (hy1 : 0 ≤ y1 ∧ y1 < p) (hy2 : 0 ≤ y2 ∧ y2 < p) (h1 : y1 * y1 % p = hgt a b p x1) (h2 : y2 * y2 % p = hgt a b p x2) (e : ¬ (x1 = x2 ∧ (y1 + y2) % p = 0)) :
    (x1 = x2 ∧ y1 = y2 ∧ 2 * y1 % p ≠ 0 ∧ ∀ n, 0 ≤ n → n < p → (p ∣ n * (2 * y1) - (3 * x1 * x1 + a) ↔ n = slopeM a p x1 y1 x2 y2)) ∨ (x1 ≠ x2 ∧ ∀ n, 0 ≤ n → n < p → (p ∣ n * (x2 - x1) - (y2 - y1) ↔ n = slopeM a p x1 y1 x2 y2)) := by
  by_cases q : x1 = x2
  · have e2 : (y1 + y2) % p ≠ 0 := fun w => e ⟨q, w⟩
    have e3 : y1 = y2 := (sq_fact p c.pm y1 (mem_rng.mpr hy1) y2 (mem_rng.mpr hy2) (by rw [h1, h2, q])).resolve_right e2
    have e4 : 2 * y1 % p ≠ 0 := by rw [← e3] at e2; rwa [show 2 * y1 = y1 + y1 by omega]
    refine .inl ⟨q, e3, e4, fun n h0 h1 => ?_⟩
    rw [slopeM, if_pos ⟨q, e3⟩, ← div_uniq c.pm e4 h0 h1]
    exact Int.dvd_iff_emod_eq_zero
  · refine .inr ⟨q, fun n h0 h1 => ?_⟩
    rw [slopeM, if_neg fun z => q z.1, ← div_uniq c.pm (mod_ne hx2 hx1 (Ne.symm q)) h0 h1]
    exact Int.dvd_iff_emod_eq_zero
theorem car_plus {p a0 b0 u a b : Int} (c : Cv p a0 b0) (c' : Cv p a b) (hu : 1 ≤ u ∧ u < p) (ha : u * u * u * u * a0 % p = a) (hb : u * u * u * u * u * u * b0 % p = b) {P Q : List Int} (hP : P ∈ ptsM a0 b0 p) (hQ : Q ∈ ptsM a0 b0 p) : plusM a p (carM p u P) (carM p u Q) = carM p u (plusM a0 p P Q) := by
  have p0 := c.p0
  have gP := car_pts c hu ha hb hP
  have gQ := car_pts c hu ha hb hQ
  rcases mem_pts.mp hP with rfl | ⟨x1, y1, rfl, hx1, hy1, h1⟩
  · rfl
  rcases mem_pts.mp hQ with rfl | ⟨x2, y2, rfl, hx2, hy2, h2⟩
  · rfl
  have t1 := ((mem_pts.mp gP).resolve_left (by simp [carM]))
  have t2 := ((mem_pts.mp gQ).resolve_left (by simp [carM]))
  simp only [carM] at t1 t2 ⊢
  obtain ⟨X1, Y1, e1, hX1, hY1, g1⟩ := t1
  obtain ⟨X2, Y2, e2, hX2, hY2, g2⟩ := t2
  rw [e1, e2]
  simp only [List.cons.injEq, and_true] at e1 e2
  obtain ⟨k1, q1⟩ := dvd_mod p (u * u * x1)
  obtain ⟨k2, q2⟩ := dvd_mod p (u * u * x2)
  obtain ⟨l1, r1⟩ := dvd_mod p (u * u * u * y1)
  obtain ⟨l2, r2⟩ := dvd_mod p (u * u * u * y2)
  obtain ⟨k3, q3⟩ := dvd_mod p (u * u * u * u * a0)
  rw [ha] at q3
  rw [e1.1] at q1; rw [e1.2] at r1; rw [e2.1] at q2; rw [e2.2] at r2
  have back : ∀ {x x' X X' k k' : Int}, u * u * x - X = p * k → u * u * x' - X' = p * k' → 0 ≤ x ∧ x < p → 0 ≤ x' ∧ x' < p → X = X' → x = x' := by
    intro x x' X X' k k' h h' hx hx' e
    refine small_eq hx hx' (can2 c.pm hu ⟨k - k', ?_⟩)
    subst e
    exact al1 h h'
  have sum0 : p ∣ Y1 + Y2 → p ∣ y1 + y2 := by
    rintro ⟨k, h⟩
    refine can3 c.pm hu ⟨k + l1 + l2, ?_⟩
    exact al2 r1 r2 h
  have sum1 : p ∣ y1 + y2 → p ∣ Y1 + Y2 := by
    rintro ⟨k, h⟩
    refine ⟨u * u * u * k - l1 - l2, ?_⟩
    exact al3 r1 r2 h
  by_cases e : x1 = x2 ∧ (y1 + y2) % p = 0
  · have eX : X1 = X2 := by rw [← e1.1, ← e2.1, e.1]
    have eY : (Y1 + Y2) % p = 0 := Int.emod_eq_zero_of_dvd (sum1 (Int.dvd_of_emod_eq_zero e.2))
    rw [plusM, if_pos ⟨eX, eY⟩, plusM, if_pos e]
  · have e' : ¬ (X1 = X2 ∧ (Y1 + Y2) % p = 0) := fun z => e ⟨back q1 q2 hx1 hx2 z.1, Int.emod_eq_zero_of_dvd (sum0 (Int.dvd_of_emod_eq_zero z.2))⟩
    rw [plusM, if_neg e', plusM, if_neg e]
    have hs : slopeM a p X1 Y1 X2 Y2 = u * slopeM a0 p x1 y1 x2 y2 % p := by
      have hb := slopeM_b (a := a0) (p := p) (x1 := x1) (y1 := y1) (x2 := x2) (y2 := y2) (by omega)
      have hm := md (u * slopeM a0 p x1 y1 x2 y2) p (by omega)
      obtain ⟨ks, hk⟩ := dvd_mod p (u * slopeM a0 p x1 y1 x2 y2)
      symm
      rcases slope_dvd c hx1 hx2 hy1 hy2 h1 h2 e with ⟨z1, z2, z3, z4⟩ | ⟨z1, z4⟩
      · have s1 := (z4 _ hb.1 hb.2).mpr rfl
        generalize slopeM a0 p x1 y1 x2 y2 = s at s1 hm hk
        obtain ⟨q, s1⟩ := s1
        have zX : X1 = X2 := by rw [← e1.1, ← e2.1, z1]
        rcases slope_dvd c' hX1 hX2 hY1 hY2 g1 g2 e' with ⟨w1, w2, w3, w4⟩ | ⟨w1, w4⟩
        · exact (w4 _ hm.1 hm.2).mp ⟨_, al4 q1 r1 q3 hk s1⟩
        · exact absurd zX w1
      · have s1 := (z4 _ hb.1 hb.2).mpr rfl
        generalize slopeM a0 p x1 y1 x2 y2 = s at s1 hm hk
        obtain ⟨q, s1⟩ := s1
        rcases slope_dvd c' hX1 hX2 hY1 hY2 g1 g2 e' with ⟨w1, w2, w3, w4⟩ | ⟨w1, w4⟩
        · exact absurd (back q1 q2 hx1 hx2 w1) z1
        · exact (w4 _ hm.1 hm.2).mp ⟨_, al5 q1 q2 r1 r2 hk s1⟩
    generalize slopeM a0 p x1 y1 x2 y2 = s at hs
    generalize slopeM a p X1 Y1 X2 Y2 = S at hs
    obtain ⟨ks, hk⟩ := dvd_mod p (u * s)
    rw [← hs] at hk
    have ex : (S * S - X1 - X2) % p = u * u * ((s * s - x1 - x2) % p) % p := by
      refine modeq ?_
      obtain ⟨j, hj⟩ := dvd_mod p (s * s - x1 - x2)
      exact ⟨_, al6 q1 q2 hk hj⟩
    simp only [sumM, carM]
    rw [ex]
    congr 2
    refine modeq ?_
    obtain ⟨j, hj⟩ := dvd_mod p (u * u * ((s * s - x1 - x2) % p))
    generalize (s * s - x1 - x2) % p = x3 at hj
    generalize u * u * x3 % p = X3 at hj
    obtain ⟨i, hi⟩ := dvd_mod p (s * (x1 - x3) - y1)
    generalize (s * (x1 - x3) - y1) % p = y3 at hi
    exact ⟨_, al7 q1 r1 hk hj hi⟩
end Pf

-- part Lm12
set_option maxHeartbeats 2000000
namespace Pf
open PySem Cc L2
/-! ### the group of a curve -/
structure Gr (p a b m n : Int) (g : Int → Int → List Int) : Prop where
  m0 : 0 < m
  n0 : 0 < n
  mn : m ∣ n
  mp : m ∣ p - 1
  pt : ∀ i j, g i j ∈ ptsM a b p
  sur : ∀ P ∈ ptsM a b p, ∃ i j, P = g i j
  eq : ∀ i j k l, g i j = g k l ↔ m ∣ i - k ∧ n ∣ j - l
  add : ∀ i j k l, plusM a p (g i j) (g k l) = g (i + k) (j + l)
  z : g 0 0 = []
theorem car_inj {p u a0 b0 : Int} (c : Cv p a0 b0) (hu : 1 ≤ u ∧ u < p) {P Q : List Int} (hP : P ∈ ptsM a0 b0 p) (hQ : Q ∈ ptsM a0 b0 p) (h : carM p u P = carM p u Q) : P = Q := by
  rcases mem_pts.mp hP with rfl | ⟨x1, y1, rfl, hx1, hy1, h1⟩
  · rcases mem_pts.mp hQ with rfl | ⟨x2, y2, rfl, hx2, hy2, h2⟩
    · rfl
    · simp [carM] at h
  · rcases mem_pts.mp hQ with rfl | ⟨x2, y2, rfl, hx2, hy2, h2⟩
    · simp [carM] at h
    · simp only [carM, List.cons.injEq, and_true] at h
      obtain ⟨k1, q1⟩ := dvd_mod p (u * u * x1)
      obtain ⟨k2, q2⟩ := dvd_mod p (u * u * x2)
      obtain ⟨l1, r1⟩ := dvd_mod p (u * u * u * y1)
      obtain ⟨l2, r2⟩ := dvd_mod p (u * u * u * y2)
      rw [h.1] at q1; rw [h.2] at r1
      have ex := small_eq hx1 hx2 (can2 c.pm hu ⟨k1 - k2, al1 q1 q2⟩)
      have ey := small_eq hy1 hy2 (can3 c.pm hu ⟨l1 - l2, by
        have e : u * u * u * y1 - u * u * u * y2 = p * l1 - p * l2 := by omega
        rw [Int.mul_sub, Int.mul_sub, e]⟩)
      rw [ex, ey]
theorem car_back {p u v a b : Int} (c : Cv p a b) (hv : p ∣ v * u - 1) {P : List Int} (hP : P ∈ ptsM a b p) : carM p u (carM p v P) = P := by
  rcases mem_pts.mp hP with rfl | ⟨x1, y1, rfl, hx1, hy1, h1⟩
  · rfl
  · have p0 := c.p0
    obtain ⟨w, hw⟩ := hv
    have hw : v * u = 1 + p * w := by omega
    simp only [carM]
    have e1 : u * u * (v * v * x1 % p) % p = x1 := by
      obtain ⟨k, hk⟩ := dvd_mod p (v * v * x1)
      have hm := md (v * v * x1) p (by omega)
      symm
      refine eqm hx1.1 hx1.2 ⟨u * u * k - (2 * w + p * w * w) * x1, ?_⟩
      have e : v * v * x1 % p = v * v * x1 - p * k := by omega
      rw [e]
      have : u * u * (v * v * x1 - p * k) = (v * u) * (v * u) * x1 - p * (u * u * k) := by grind
      rw [this, hw]; grind
    have e2 : u * u * u * (v * v * v * y1 % p) % p = y1 := by
      obtain ⟨k, hk⟩ := dvd_mod p (v * v * v * y1)
      symm
      refine eqm hy1.1 hy1.2 ⟨u * u * u * k - (3 * w + 3 * p * w * w + p * p * w * w * w) * y1, ?_⟩
      have e : v * v * v * y1 % p = v * v * v * y1 - p * k := by omega
      rw [e]
      have : u * u * u * (v * v * v * y1 - p * k) = (v * u) * (v * u) * (v * u) * y1 - p * (u * u * u * k) := by grind
      rw [this, hw]; grind
    rw [e1, e2]
theorem inv_range {p u : Int} (hp : p ∈ PR) (hu : 1 ≤ u ∧ u < p) : 1 ≤ invM u p ∧ invM u p < p := by
  have := invM_b (n := u) hp
  obtain ⟨k, hk⟩ := inv_one hp hu
  have p0 := pr_b hp
  refine ⟨?_, this.2⟩
  rcases Int.lt_or_le 0 (invM u p) with h | h
  · omega
  · have e : invM u p = 0 := by omega
    rw [e] at hk
    have : p ∣ 1 := ⟨-k, by grind⟩
    have := Int.le_of_dvd (by decide) this
    omega
theorem back4 {p u v a0 a : Int} (hp : p ∈ PR) (hv : p ∣ v * u - 1) (ha : u * u * u * u * a0 % p = a) (h : 0 ≤ a0 ∧ a0 < p) : v * v * v * v * a % p = a0 := by
  obtain ⟨w, hw⟩ := hv
  obtain ⟨k, hk⟩ := dvd_mod p (u * u * u * u * a0)
  rw [ha] at hk
  have e : a = u * u * u * u * a0 - p * k := by omega
  symm
  refine eqm h.1 h.2 ⟨v * v * v * v * k - (((v * u) * (v * u) * (v * u) + (v * u) * (v * u) + (v * u) + 1) * w) * a0, ?_⟩
  subst e
  have : v * v * v * v * (u * u * u * u * a0 - p * k) = (v * u) * (v * u) * (v * u) * (v * u) * a0 - p * (v * v * v * v * k) := by grind
  rw [this]
  have hw : v * u = 1 + p * w := by omega
  rw [hw]; grind
theorem back6 {p u v a0 a : Int} (hp : p ∈ PR) (hv : p ∣ v * u - 1) (ha : u * u * u * u * u * u * a0 % p = a) (h : 0 ≤ a0 ∧ a0 < p) : v * v * v * v * v * v * a % p = a0 := by
  obtain ⟨w, hw⟩ := hv
  obtain ⟨k, hk⟩ := dvd_mod p (u * u * u * u * u * u * a0)
  rw [ha] at hk
  have e : a = u * u * u * u * u * u * a0 - p * k := by omega
  have hw : v * u = 1 + p * w := by omega
  symm
  refine eqm h.1 h.2 ⟨v * v * v * v * v * v * k - (((v * u) * (v * u) * (v * u) * (v * u) * (v * u) + (v * u) * (v * u) * (v * u) * (v * u) + (v * u) * (v * u) * (v * u) + (v * u) * (v * u) + (v * u) + 1) * w) * a0, ?_⟩
  subst e
  have : v * v * v * v * v * v * (u * u * u * u * u * u * a0 - p * k) = (v * u) * (v * u) * (v * u) * (v * u) * (v * u) * (v * u) * a0 - p * (v * v * v * v * v * v * k) := by grind
  rw [this]
  rw [hw]; grind
theorem toNat_mod (i : Int) {m : Nat} (h : 0 < m) : (i % (m : Int)).toNat < m := by
  have := md i m (by omega); omega
theorem add_mod_toNat (i k : Int) {m : Nat} (h : 0 < m) : ((i % (m : Int)).toNat + (k % (m : Int)).toNat) % m = ((i + k) % (m : Int)).toNat := by
  have h1 := md i m (by omega); have h2 := md k m (by omega)
  have e : ((((i % (m : Int)).toNat + (k % (m : Int)).toNat) % m : Nat) : Int) = (i + k) % (m : Int) := by
    rw [Int.natCast_emod, Int.natCast_add, Int.toNat_of_nonneg h1.1, Int.toNat_of_nonneg h2.1]
    exact (Int.add_emod i k m).symm
  omega
theorem group_of {p a b : Int} (c : Cv p a b) : ∃ m n g, Gr p a b m n g := by
  obtain ⟨a0, b0, u, m, n, φ, c0, hu, ha, hb, G⟩ : ∃ (a0 b0 u : Int) (m n : Nat) (φ : Nat → Nat → List Int), Cv p a0 b0 ∧ (1 ≤ u ∧ u < p) ∧ u * u * u * u * a0 % p = a ∧ u * u * u * u * u * u * b0 % p = b ∧ Grp p a0 b0 m n φ := by
    obtain ⟨P, K, u, k, hK, eP, H⟩ := kind_of c
    exact ⟨_, _, u, _, _, _, H.cv, H.ur, H.ha, H.hb, H.grp⟩
  have p0 := c.p0
  have hm := G.m0; have hn := G.n0
  have im := fun i : Int => toNat_mod i hm
  have jn := fun j : Int => toNat_mod j hn
  refine ⟨m, n, fun i j => carM p u (φ (i % (m : Int)).toNat (j % (n : Int)).toNat), ⟨by omega, by omega, ?_, ?_, ?_, ?_, ?_, ?_, ?_⟩⟩
  · exact Int.natCast_dvd_natCast.mpr (Nat.dvd_of_mod_eq_zero G.mn)
  · have := Int.natCast_dvd_natCast.mpr (Nat.dvd_of_mod_eq_zero G.mp)
    rwa [show ((p.toNat - 1 : Nat) : Int) = p - 1 by omega] at this
  · exact fun i j => car_pts c0 hu ha hb (G.pt _ _ (im i) (jn j))
  · intro P hP
    have hv := inv_one c.pm hu
    have r := inv_range c.pm hu
    have back := car_pts (a := a0) (b := b0) c r (back4 c.pm hv ha ⟨c0.a0, c0.a1⟩) (back6 c.pm hv hb ⟨c0.b0, c0.b1⟩) hP
    obtain ⟨i, j, hi, hj, e⟩ := G.sur _ back
    refine ⟨i, j, ?_⟩
    have ei : ((i : Int) % (m : Int)).toNat = i := by rw [Int.emod_eq_of_lt (by omega) (by omega)]; omega
    have ej : ((j : Int) % (n : Int)).toNat = j := by rw [Int.emod_eq_of_lt (by omega) (by omega)]; omega
    rw [ei, ej, ← e, car_back c hv hP]
  · intro i j k l
    have mi := md i m (by omega); have mk := md k m (by omega); have nj := md j n (by omega); have nl := md l n (by omega)
    rw [Int.dvd_iff_emod_eq_zero, Int.dvd_iff_emod_eq_zero, ← Int.emod_eq_emod_iff_emod_sub_eq_zero, ← Int.emod_eq_emod_iff_emod_sub_eq_zero]
    constructor
    · intro h
      have := G.inj _ _ _ _ (im i) (jn j) (im k) (jn l) (car_inj c0 hu (G.pt _ _ (im i) (jn j)) (G.pt _ _ (im k) (jn l)) h)
      omega
    · rintro ⟨h1, h2⟩
      rw [h1, h2]
  · intro i j k l
    rw [car_plus c0 c hu ha hb (G.pt _ _ (im i) (jn j)) (G.pt _ _ (im k) (jn l)), G.add _ _ _ _ (im i) (jn j) (im k) (jn l), add_mod_toNat _ _ hm, add_mod_toNat _ _ hn]
  · show carM p u (φ ((0 : Int) % (m : Int)).toNat ((0 : Int) % (n : Int)).toNat) = []
    rw [Int.zero_emod, Int.zero_emod]
    show carM p u (φ 0 0) = []
    rw [G.z]; rfl
/-! ### the laws of the group -/
section
variable {p a b m n : Int} {g : Int → Int → List Int}
theorem Gr.nil (G : Gr p a b m n g) : ([] : List Int) ∈ ptsM a b p := G.z ▸ G.pt 0 0
theorem Gr.plus_pts (G : Gr p a b m n g) {P Q : List Int} (hP : P ∈ ptsM a b p) (hQ : Q ∈ ptsM a b p) : plusM a p P Q ∈ ptsM a b p := by
  obtain ⟨i, j, rfl⟩ := G.sur P hP
  obtain ⟨k, l, rfl⟩ := G.sur Q hQ
  rw [G.add]; exact G.pt _ _
theorem Gr.comm (G : Gr p a b m n g) {P Q : List Int} (hP : P ∈ ptsM a b p) (hQ : Q ∈ ptsM a b p) : plusM a p P Q = plusM a p Q P := by
  obtain ⟨i, j, rfl⟩ := G.sur P hP
  obtain ⟨k, l, rfl⟩ := G.sur Q hQ
  rw [G.add, G.add, Int.add_comm, Int.add_comm j]
theorem Gr.assoc (G : Gr p a b m n g) {P Q R : List Int} (hP : P ∈ ptsM a b p) (hQ : Q ∈ ptsM a b p) (hR : R ∈ ptsM a b p) : plusM a p (plusM a p P Q) R = plusM a p P (plusM a p Q R) := by
  obtain ⟨i, j, rfl⟩ := G.sur P hP
  obtain ⟨k, l, rfl⟩ := G.sur Q hQ
  obtain ⟨s, t, rfl⟩ := G.sur R hR
  rw [G.add, G.add, G.add, G.add, Int.add_assoc, Int.add_assoc]
theorem Gr.cancel (G : Gr p a b m n g) {P Q R : List Int} (hP : P ∈ ptsM a b p) (hQ : Q ∈ ptsM a b p) (hR : R ∈ ptsM a b p) (h : plusM a p P Q = plusM a p P R) : Q = R := by
  obtain ⟨i, j, rfl⟩ := G.sur P hP
  obtain ⟨k, l, rfl⟩ := G.sur Q hQ
  obtain ⟨s, t, rfl⟩ := G.sur R hR
  rw [G.add, G.add, G.eq] at h
  rw [G.eq]
  rwa [show i + k - (i + s) = k - s by omega, show j + l - (j + t) = l - t by omega] at h
theorem plus_nil {P : List Int} (hP : P ∈ ptsM a b p) : plusM a p P [] = P := by
  rcases mem_pts.mp hP with rfl | ⟨x, y, rfl, _⟩ <;> rfl
theorem nil_plus (P : List Int) : plusM a p [] P = P := by cases P <;> rfl
theorem Gr.neg (G : Gr p a b m n g) (c : Cv p a b) (i j : Int) : negM p (g i j) = g (-i) (-j) := by
  refine G.cancel (G.pt i j) (neg_pts c (G.pt i j)) (G.pt _ _) ?_
  rw [plus_neg c (G.pt i j), G.add, show i + -i = 0 by omega, show j + -j = 0 by omega, G.z]
theorem Gr.negneg (G : Gr p a b m n g) (c : Cv p a b) {P : List Int} (hP : P ∈ ptsM a b p) : negM p (negM p P) = P := by
  obtain ⟨i, j, rfl⟩ := G.sur P hP
  rw [G.neg c, G.neg c, Int.neg_neg, Int.neg_neg]
end
end Pf

-- part Lm13
set_option maxHeartbeats 2000000
namespace Pf
open PySem Cc L2
/-! ### how many points -/
theorem rng_pair : ∀ (p : Int), (rng p).Pairwise (· < ·) := by
  intro p
  unfold rng
  rw [List.pairwise_map]
  exact List.pairwise_lt_range.imp fun h => Int.ofNat_lt.mpr h
theorem nodup_flat {α β : Type} {f : α → List β} (key : β → α) : ∀ {xs : List α}, xs.Nodup → (∀ x ∈ xs, (f x).Nodup ∧ ∀ y ∈ f x, key y = x) → (xs.flatMap f).Nodup
  | [], _, _ => List.nodup_nil
  | x :: xs, hd, h => by
    have hx := List.nodup_cons.mp hd
    rw [List.flatMap_cons, List.nodup_append]
    refine ⟨(h x List.mem_cons_self).1, nodup_flat key hx.2 fun y hy => h y (List.mem_cons_of_mem _ hy), ?_⟩
    intro y hy z hz e
    subst e
    obtain ⟨w, hw, hz⟩ := List.mem_flatMap.mp hz
    have e1 := (h x List.mem_cons_self).2 _ hy
    have e2 := (h w (List.mem_cons_of_mem _ hw)).2 _ hz
    rw [e1] at e2
    exact hx.1 (e2 ▸ hw)
theorem nodup_map {α β : Type} {f : α → β} : ∀ {xs : List α}, xs.Nodup → (∀ x ∈ xs, ∀ y ∈ xs, f x = f y → x = y) → (xs.map f).Nodup
  | [], _, _ => List.nodup_nil
  | x :: xs, hd, h => by
    have hx := List.nodup_cons.mp hd
    rw [List.map_cons, List.nodup_cons]
    refine ⟨fun q => ?_, nodup_map hx.2 fun y hy z hz => h y (List.mem_cons_of_mem _ hy) z (List.mem_cons_of_mem _ hz)⟩
    obtain ⟨y, hy, e⟩ := List.mem_map.mp q
    exact hx.1 (h _ (List.mem_cons_of_mem _ hy) _ List.mem_cons_self e ▸ hy)
theorem pts_nodup (a b p : Int) : (ptsM a b p).Nodup := by
  unfold ptsM
  rw [List.nodup_cons]
  constructor
  · intro h
    obtain ⟨x, _, h⟩ := List.mem_flatMap.mp h
    obtain ⟨y, _, h⟩ := List.mem_map.mp h
    cases h
  · refine nodup_flat (fun P => P.headD 0) (rng_nodup p) fun x _ => ⟨?_, ?_⟩
    · refine nodup_map ((rng_nodup p).sublist List.filter_sublist) fun y _ z _ e => ?_
      simpa using e
    · intro P hP
      obtain ⟨y, _, rfl⟩ := List.mem_map.mp hP
      rfl
/-- as many points as pairs -/
theorem Gr.card {p a b m n : Int} {g : Int → Int → List Int} (G : Gr p a b m n g) : ((ptsM a b p).length : Int) = m * n := by
  have m0 := G.m0; have n0 := G.n0
  have hl : ((rng m).flatMap fun i => (rng n).map fun j => g i j).length = (ptsM a b p).length := by
    refine nodup_same_len ?_ (pts_nodup a b p) ?_
    · have inj : ∀ i ∈ rng m, ∀ j ∈ rng n, ∀ k ∈ rng m, ∀ l ∈ rng n, g i j = g k l → i = k ∧ j = l := by
        intro i hi j hj k hk l hl e
        obtain ⟨h1, h2⟩ := (G.eq ..).mp e
        exact ⟨small_eq (mem_rng.mp hi) (mem_rng.mp hk) h1, small_eq (mem_rng.mp hj) (mem_rng.mp hl) h2⟩
      have : ∀ xs : List Int, (∀ x ∈ xs, x ∈ rng m) → xs.Nodup → (xs.flatMap fun i => (rng n).map fun j => g i j).Nodup := by
        intro xs
        induction xs with
        | nil => intro _ _; exact List.nodup_nil
        | cons x xs ih =>
          intro hs hd
          have hx := List.nodup_cons.mp hd
          rw [List.flatMap_cons, List.nodup_append]
          refine ⟨nodup_map (rng_nodup n) fun j hj l hl e => (inj _ (hs x List.mem_cons_self) j hj _ (hs x List.mem_cons_self) l hl e).2, ih (fun y hy => hs y (List.mem_cons_of_mem _ hy)) hx.2, ?_⟩
          intro P hP Q hQ e
          subst e
          obtain ⟨j, hj, rfl⟩ := List.mem_map.mp hP
          obtain ⟨k, hk, hQ⟩ := List.mem_flatMap.mp hQ
          obtain ⟨l, hl, e⟩ := List.mem_map.mp hQ
          have := (inj _ (hs x List.mem_cons_self) j hj k (hs k (List.mem_cons_of_mem _ hk)) l hl e.symm).1
          exact hx.1 (this ▸ hk)
      exact this _ (fun x h => h) (rng_nodup m)
    · intro P
      constructor
      · intro h
        obtain ⟨i, _, h⟩ := List.mem_flatMap.mp h
        obtain ⟨j, _, rfl⟩ := List.mem_map.mp h
        exact G.pt i j
      · intro h
        obtain ⟨i, j, rfl⟩ := G.sur P h
        refine List.mem_flatMap.mpr ⟨i % m, mem_rng.mpr (md i m m0), List.mem_map.mpr ⟨j % n, mem_rng.mpr (md j n n0), ?_⟩⟩
        refine (G.eq ..).mpr ⟨?_, ?_⟩
        · rw [Int.dvd_iff_emod_eq_zero, ← Int.emod_eq_emod_iff_emod_sub_eq_zero, Int.emod_emod]
        · rw [Int.dvd_iff_emod_eq_zero, ← Int.emod_eq_emod_iff_emod_sub_eq_zero, Int.emod_emod]
  have h2 : ∀ xs : List Int, (xs.flatMap fun i => (rng n).map fun j => g i j).length = xs.length * (rng n).length := by
    intro xs
    induction xs with
    | nil => simp
    | cons x xs ih => rw [List.flatMap_cons, List.length_append, List.length_map, ih, List.length_cons, Nat.add_mul]; omega
  have h3 : ∀ k : Int, 0 < k → ((rng k).length : Int) = k := by
    intro k hk
    simp [rng]; omega
  rw [← hl, h2, Int.natCast_mul, h3 m m0, h3 n n0]
theorem dedup_nodup {ts : List (List Int)} (h : ts.Nodup) : dedup ts = ts := by
  induction ts with
  | nil => rfl
  | cons t ts ih =>
    have hx := List.nodup_cons.mp h
    rw [dedup, if_neg hx.1, ih hx.2]
/-- at most 63 points -/
theorem pts_63 {a b p : Int} (c : Cv p a b) : (ptsM a b p).length < 64 := by
  have p0 := c.p0; have p1 := c.p1
  unfold ptsM
  rw [List.length_cons, List.length_flatMap]
  have row : ∀ x, (rowM a b p x).length ≤ 2 := by
    intro x
    unfold rowM
    rw [List.length_map]
    have hd : ((rng p).filter fun y => decide (y * y % p = hgt a b p x)).Nodup := (rng_nodup p).sublist List.filter_sublist
    cases h : (rng p).filter fun y => decide (y * y % p = hgt a b p x) with
    | nil => simp
    | cons y ys =>
      have hy : y ∈ (rng p).filter fun y => decide (y * y % p = hgt a b p x) := by rw [h]; exact List.mem_cons_self
      rw [h] at hd
      have hys := List.nodup_cons.mp hd
      have hy2 := List.mem_filter.mp hy
      have : ∀ z ∈ ys, z ∈ [-y % p] := by
        intro z hz
        have hz2 : z ∈ (rng p).filter fun y => decide (y * y % p = hgt a b p x) := by rw [h]; exact List.mem_cons_of_mem _ hz
        have hz3 := List.mem_filter.mp hz2
        have e1 := of_decide_eq_true hy2.2
        have e2 := of_decide_eq_true hz3.2
        have ne : y ≠ z := fun e => hys.1 (e ▸ hz)
        have := (sq_fact p c.pm y hy2.1 z hz3.1 (by rw [e1, e2])).resolve_left ne
        have hzr := mem_rng.mp hz3.1
        rw [List.mem_singleton]
        refine eqm hzr.1 hzr.2 ?_
        have := Int.dvd_of_emod_eq_zero this
        rwa [show z - -y = y + z by omega]
      have := nodup_sub_len hys.2 this
      simpa using this
  have : ∀ xs : List Int, (xs.map fun x => (rowM a b p x).length).sum ≤ xs.length * 2 := by
    intro xs
    induction xs with
    | nil => simp
    | cons x xs ih =>
      have := row x
      rw [List.map_cons, List.sum_cons, List.length_cons]
      omega
  have h2 := this (rng p)
  have h3 : (rng p).length = p.toNat := by simp [rng]
  omega
end Pf

-- part Lm14
set_option maxHeartbeats 2000000
namespace Pf
open PySem Cc L2
/-! ### points counted -/
def sumN (f : Nat → Nat) : Nat → Nat
  | 0 => 0
  | k + 1 => f k + sumN f k
def cntN (p T a b : Nat) : Nat := 1 + sumN (fun x => Nat.shiftRight T (2 * ((x * x * x + a * x + b) % p)) % 4) p
/-- a clock, its table of how many roots, its first number without root -/
def PT : List (Nat × Nat × Nat) := [(5, 521, 2), (7, 553, 3), (11, 526985, 2), (13, 36176521, 2), (17, 10872291881, 3), (19, 42958629385, 2), (23, 146197324457, 5), (29, 147108067451382281, 2), (31, 146369883237157417, 3)]
def rowN (p h : Nat) : Nat := sumN (fun y => cond (Nat.beq (y * y % p) h) 1 0) p
def tabOk (p T d : Nat) : Bool := allN (fun h => Nat.beq (Nat.shiftRight T (2 * h) % 4) (rowN p h)) p && (Nat.blt 0 d && (Nat.blt d p && (Nat.beq (rowN p d) 0 && allN (fun e => Nat.beq e 0 || (Nat.ble d e || Nat.blt 0 (rowN p e))) p)))
theorem PT_ok : PT.all (fun q => tabOk q.1 q.2.1 q.2.2) = true := by decide +kernel
def hasN (p N : Nat) : Bool := Nat.ble (N * N + (p + 1) * (p + 1)) (4 * p + 2 * N * (p + 1))
def goodN (p a b : Nat) : Bool := !(Nat.beq ((4 * a * a * a + 27 * b * b) % p) 0)
/-- for each curve of a clock -/
def allC (p : Nat) (f : Nat → Nat → Bool) : Bool := allN (fun a => allN (fun b => !(goodN p a b) || f a b) p) p
theorem allC_of {p : Nat} {f : Nat → Nat → Bool} (h : allC p f = true) {a b : Nat} (c : Cv p a b) : f a b = true := by
  have a1 := c.a1; have b1 := c.b1
  have := allN_all (allN_all h a (by omega)) b (by omega)
  have g := c.gd
  rw [good_nat] at g
  unfold goodN at this
  rw [g] at this
  exact this
def twN (p T d a b : Nat) : Bool := (fun N => hasN p N && Nat.beq (N + cntN p T (d * d * a % p) (d * d * d * b % p)) (2 * p + 2)) (cntN p T a b)
theorem PT_tw : PT.all (fun q => allC q.1 fun a b => twN q.1 q.2.1 q.2.2 a b) = true := by decide +kernel
theorem PT_of {p : Nat} (hp : (p : Int) ∈ PR) : ∃ T d, (p, T, d) ∈ PT := by
  have q : (p : Int) = 5 ∨ (p : Int) = 7 ∨ (p : Int) = 11 ∨ (p : Int) = 13 ∨ (p : Int) = 17 ∨ (p : Int) = 19 ∨ (p : Int) = 23 ∨ (p : Int) = 29 ∨ (p : Int) = 31 := by simpa [PR] using hp
  have e : ∀ k : Nat, (p : Int) = k → p = k := fun k h => by omega
  rcases q with h | h | h | h | h | h | h | h | h
  · rw [e 5 h]; exact ⟨521, 2, by decide⟩
  · rw [e 7 h]; exact ⟨553, 3, by decide⟩
  · rw [e 11 h]; exact ⟨526985, 2, by decide⟩
  · rw [e 13 h]; exact ⟨36176521, 2, by decide⟩
  · rw [e 17 h]; exact ⟨10872291881, 3, by decide⟩
  · rw [e 19 h]; exact ⟨42958629385, 2, by decide⟩
  · rw [e 23 h]; exact ⟨146197324457, 5, by decide⟩
  · rw [e 29 h]; exact ⟨147108067451382281, 2, by decide⟩
  · rw [e 31 h]; exact ⟨146369883237157417, 3, by decide⟩
theorem sumN_eq (f : Nat → Nat) : ∀ n, sumN f n = ((List.range n).map f).sum
  | 0 => rfl
  | n + 1 => by rw [sumN, sumN_eq f n, List.range_succ, List.map_append, List.sum_append]; simp; omega
theorem sumN_congr {f g : Nat → Nat} : ∀ {n : Nat}, (∀ k, k < n → f k = g k) → sumN f n = sumN g n
  | 0, _ => rfl
  | n + 1, h => by rw [sumN, sumN, h n (by omega), sumN_congr fun k hk => h k (by omega)]
theorem filter_sum (P : Nat → Bool) : ∀ n, ((List.range n).filter P).length = sumN (fun y => cond (P y) 1 0) n
  | 0 => rfl
  | n + 1 => by
    rw [List.range_succ, List.filter_append, List.length_append, filter_sum P n, sumN]
    cases h : P n <;> simp [h] <;> omega
theorem rowN_eq (p h : Nat) : ((rng p).filter fun y => decide (y * y % (p : Int) = (h : Int))).length = rowN p h := by
  have e : rng (p : Int) = (List.range p).map fun i : Nat => (i : Int) := rfl
  rw [e, List.filter_map, List.length_map, filter_sum, rowN]
  refine sumN_congr fun y _ => ?_
  have : ((y : Int) * y % (p : Int)) = ((y * y % p : Nat) : Int) := cast_mod (by push_cast; rfl)
  simp only [Function.comp_apply, this]
  by_cases q : y * y % p = h
  · rw [nb_t q]; simp [q]
  · rw [nb_f q]
    have : ¬ (((y * y % p : Nat) : Int) = (h : Int)) := fun z => q (by omega)
    simp only [this, decide_false]
theorem cnt_eq {p T d a b : Nat} (h : (p, T, d) ∈ PT) (p0 : 0 < p) : (ptsM a b p).length = cntN p T a b := by
  have ok := List.all_eq_true.mp PT_ok _ h
  unfold tabOk at ok
  simp only [Bool.and_eq_true] at ok
  have tab := allN_all ok.1
  unfold ptsM cntN
  rw [List.length_cons, List.length_flatMap, Nat.add_comm, sumN_eq]
  congr 1
  have e : rng (p : Int) = (List.range p).map fun i : Nat => (i : Int) := rfl
  rw [e, List.map_map]
  congr 1
  refine List.map_congr_left fun x hx => ?_
  have hm := Nat.mod_lt (x * x * x + a * x + b) p0
  show (rowM a b p x).length = _
  unfold rowM
  rw [List.length_map, hgt_nat, rowN_eq, ← nbt (tab _ hm)]
/-! ### Hasse, and the other half -/
theorem Gr.hasse {p a b : Int} (c : Cv p a b) : ∀ N : Int, N = (ptsM a b p).length → (N - p - 1) * (N - p - 1) ≤ 4 * p := by
  intro N hN
  have p0 := c.p0
  obtain ⟨p, rfl⟩ := Int.eq_ofNat_of_zero_le (show 0 ≤ p by omega)
  obtain ⟨a, rfl⟩ := Int.eq_ofNat_of_zero_le c.a0
  obtain ⟨b, rfl⟩ := Int.eq_ofNat_of_zero_le c.b0
  obtain ⟨T, d, h⟩ := PT_of c.pm
  have := allC_of (List.all_eq_true.mp PT_tw _ h) c
  unfold twN hasN at this
  rw [Bool.and_eq_true] at this
  have h1 := Nat.le_of_ble_eq_true this.1
  rw [← cnt_eq h (by omega)] at h1
  generalize (ptsM (a : Int) b p).length = M at h1 hN
  subst hN
  have h2 : ((M * M + (p + 1) * (p + 1) : Nat) : Int) ≤ ((4 * p + 2 * M * (p + 1) : Nat) : Int) := Int.ofNat_le.mpr h1
  push_cast at h2
  have : ((M : Int) - p - 1) * ((M : Int) - p - 1) = M * M + (p + 1) * (p + 1) - 2 * M * (p + 1) := by grind
  omega
end Pf

-- part Lm17
set_option maxHeartbeats 2000000
namespace Pf
open PySem Cc L2
/-! ### curves alike -/
@[simp] theorem o_eqP {a b c d : Int} : eqD (.tuple [.int a, .int b]) (.tuple [.int c, .int d]) = some (.bool (decide (a = c ∧ b = d))) := by
  have := o_eqT (s := [a, b]) (t := [c, d])
  simpa [tupI] using this
@[simp] theorem o_neP {a b c d : Int} : neD (.tuple [.int a, .int b]) (.tuple [.int c, .int d]) = some (.bool (!decide (a = c ∧ b = d))) := by
  have := o_neT (s := [a, b]) (t := [c, d])
  simpa [tupI] using this
/-- a loop that hands back the first that fits -/
theorem forL_find {α : Type} {f : α → Dt} {g : GF} {B : SF} (q : α → Bool) (r : α → Dt) (I : Dn → Prop) : ∀ (xs : List α) {ρ : Dn}, I ρ →
    (∀ (x : α) (ρ : Dn), x ∈ xs → I ρ → ∃ ρ1, g (f x) ρ = some ρ1 ∧ ((q x = true ∧ B ρ1 = some (.rt (r x))) ∨ (q x = false ∧ ∃ ρ2, B ρ1 = some (.nx ρ2) ∧ I ρ2))) →
    (∃ x, xs.find? q = some x ∧ forL g B (xs.map f) ρ = some (.rt (r x))) ∨ (xs.find? q = none ∧ ∃ ρ', forL g B (xs.map f) ρ = some (.nx ρ') ∧ I ρ')
  | [], ρ, h0, _ => .inr ⟨rfl, ρ, rfl, h0⟩
  | x :: xs, ρ, h0, hs => by
    obtain ⟨ρ1, h1, h2⟩ := hs x ρ List.mem_cons_self h0
    have e : forL g B ((x :: xs).map f) ρ = match B ρ1 with | some (.nx ρ2) => forL g B (xs.map f) ρ2 | r => r := by
      show (g (f x) ρ).bind (fun ρ1 => match B ρ1 with | some (.nx ρ2) => forL g B (xs.map f) ρ2 | r => r) = _
      rw [h1]; rfl
    rcases h2 with ⟨h3, h4⟩ | ⟨h3, ρ2, h4, h5⟩
    · exact .inl ⟨x, by rw [List.find?_cons, h3], by rw [e, h4]⟩
    · rw [e, h4, List.find?_cons, h3]
      exact forL_find q r I xs h5 fun y ρ hy hi => hs y ρ (List.mem_cons_of_mem _ hy) hi
/-! #### 1, .., p - 1 -/
def rng1p (p : Int) : List Int := (List.range (p - 1).toNat).map fun i : Nat => 1 + (i : Int)
theorem mem_rng1p {p u : Int} : u ∈ rng1p p ↔ 1 ≤ u ∧ u < p := by
  unfold rng1p
  rw [List.mem_map]
  constructor
  · rintro ⟨i, hi, rfl⟩
    have := List.mem_range.mp hi
    omega
  · intro h
    exact ⟨(u - 1).toNat, List.mem_range.mpr (by omega), by omega⟩
theorem rng2 {p : Int} (h : 1 ≤ p ∧ p < 1000) : rng2D [.int 1, .int p] = some ((rng1p p).map .int) := by
  rw [o_rng2 (by omega), rng1p, List.map_map]
  rfl
theorem rng1p_len {p : Int} : (rng1p p).length = (p - 1).toNat := by simp [rng1p]
/-! #### powers -/
theorem pow_dvd (n p : Int) : ∀ k, p ∣ powM n p k - n ^ k
  | 0 => ⟨0, by simp [powM]⟩
  | k + 1 => by
    obtain ⟨q, hq⟩ := pow_dvd n p k
    obtain ⟨w, hw⟩ := dvd_mod p (powM n p k * n)
    refine ⟨q * n - w, ?_⟩
    rw [powM, Int.pow_succ]
    have e : powM n p k = n ^ k + p * q := by omega
    generalize powM n p k * n % p = z at hw
    rw [e] at hw
    grind
theorem powM_mul (n p a : Int) (k : Nat) : powM n p k * a % p = n ^ k * a % p := by
  obtain ⟨q, hq⟩ := pow_dvd n p k
  exact modeq ⟨q * a, by grind⟩
theorem pow4 (n : Int) : n ^ 4 = n * n * n * n := by grind
theorem pow6 (n : Int) : n ^ 6 = n * n * n * n * n * n := by grind
theorem pow3 (n : Int) : n ^ 3 = n * n * n := by grind
theorem pow2 (n : Int) : n ^ 2 = n * n := by grind
theorem F_moved_eq {a b p u : Int} (hp : 1 < p ∧ p < 1000) (hu : u.natAbs < 1000000) (ha : a.natAbs < 1000000) (hb : b.natAbs < 1000000) : F_moved [.tuple [.int a, .int b], .int p, .int u] = some (.tuple [.int (u * u * u * u * a % p), .int (u * u * u * u * u * u * b % p)]) := by
  refine run_rt rfl ?_
  show B_moved [vP a b, vI p, vI u] = _
  have e4 := F_power_eq (k := 4) hu (by decide) hp
  have e6 := F_power_eq (k := 6) hu (by decide) hp
  have h4 := powM_mul u p a 4
  have h6 := powM_mul u p b 6
  rw [pow4] at h4; rw [pow6] at h6
  have p0 : 0 < p := by omega
  simp only [show ((4 : Int).toNat) = 4 from rfl] at e4
  simp only [show ((6 : Int).toNat) = 6 from rfl] at e6
  have m1 : mulD (.int (powM u p 4)) (.int a) = some (.int (powM u p 4 * a)) := o_mul (.inr (by omega))
  have m2 : mulD (.int (powM u p 6)) (.int b) = some (.int (powM u p 6 * b)) := o_mul (.inr (by omega))
  simp [B_moved, e4, e6, m1, m2, o_mod p0, h4, h6]
theorem F_law_moved_eq {a b p u : Int} (hp : 0 < p) (hu : u.natAbs < 1000000) (ha : a.natAbs < 1000000) (hb : b.natAbs < 1000000) : F_law_moved [.tuple [.int a, .int b], .int p, .int u] = some (.tuple [.int (u * u * u * u * a % p), .int (u * u * u * u * u * u * b % p)]) := by
  refine run_rt rfl ?_
  show B_law_moved [vP a b, vI p, vI u] = _
  simp (disch := omega) [B_law_moved]
def mvB (p a b c d u : Int) : Bool := decide (u * u * u * u * a % p = c ∧ u * u * u * u * u * u * b % p = d)
def alikeM (p a b c d : Int) : Option Int := (rng1p p).find? (mvB p a b c d)
def optD : Option Int → Dt
  | some u => .int u
  | none => .none
theorem rng1p_b {p u : Int} (hp : p < 1000) (h : u ∈ rng1p p) : u.natAbs < 1000000 := by have := mem_rng1p.mp h; omega
theorem F_alike_eq {a b p : Int} (hp : 1 < p ∧ p < 1000) (ha : a.natAbs < 1000000) (hb : b.natAbs < 1000000) (c d : Int) : F_alike [.tuple [.int a, .int b], .tuple [.int c, .int d], .int p] = some (optD (alikeM p a b c d)) := by
  refine run_rt rfl ?_
  show B_alike [vP a b, vP c d, vI p, .unk] = _
  unfold B_alike
  have loop := forL_find (f := PyData.int) (g := gSet 3) (B := L_alike_1) (mvB p a b c d) PyData.int (fun ρ => ∃ s3, ρ = [vP a b, vP c d, vI p, s3]) (rng1p p) (ρ := [vP a b, vP c d, vI p, .unk]) ⟨_, rfl⟩
    (by
      rintro u _ hu ⟨s3, rfl⟩
      refine ⟨_, rfl, ?_⟩
      simp only [List.set_cons_succ, List.set_cons_zero]
      have e := F_moved_eq hp (rng1p_b hp.2 hu) ha hb
      by_cases h : u * u * u * u * a % p = c ∧ u * u * u * u * u * u * b % p = d
      · exact .inl ⟨by simp [mvB, h], by simp [L_alike_1, e, h]⟩
      · exact .inr ⟨by simp only [mvB, h, decide_false], [vP a b, vP c d, vI p, vI u], by simp [L_alike_1, e, h], _, rfl⟩)
  have it : iF rng2D (aCons (cst (.int 1)) (aCons (getV 2) aNil)) [vP a b, vP c d, vI p, .unk] = some ((rng1p p).map .int) := by
    simp [rng2 (p := p) (by omega)]
  rcases loop with ⟨u, h1, h2⟩ | ⟨h1, _, h2, s3, rfl⟩
  · rw [seq_rt (by rw [r_sFor, it, Option.bind_some]; exact h2), alikeM, h1]
    rfl
  · rw [seq_nx (by rw [r_sFor, it, Option.bind_some]; exact h2), alikeM, h1]
    rfl
theorem F_law_alike_eq {a b p : Int} (hp : 1 < p ∧ p < 1000) (ha : a.natAbs < 1000000) (hb : b.natAbs < 1000000) (c d : Int) : F_law_alike [.tuple [.int a, .int b], .tuple [.int c, .int d], .int p] = some (optD (alikeM p a b c d)) := by
  refine run_rt rfl ?_
  show B_law_alike [vP a b, vP c d, vI p, .unk, .unk] = _
  unfold B_law_alike
  have it : iF rng2D (aCons (cst (.int 1)) (aCons (getV 2) aNil)) [vP a b, vP c d, vI p, .unk, .unk] = some ((rng1p p).map .int) := by
    simp [rng2 (p := p) (by omega)]
  have e : lcF (iF rng2D (aCons (cst (.int 1)) (aCons (getV 2) aNil))) [4] (gSet 4) T_law_alike_1 E_law_alike_1 [vP a b, vP c d, vI p, .unk, .unk] = some (((rng1p p).filter (mvB p a b c d)).map .int) := by
    rw [r_lcF, it, Option.bind_some, if_pos (by rw [List.length_map, rng1p_len]; omega), lcL_filter (mvB p a b c d) PyData.int (rng1p p) fun u hu => ⟨_, rfl, ?_, fun _ => by simp [E_law_alike_1, wipeD]⟩]
    simp [T_law_alike_1, wipeD, F_law_moved_eq (p := p) (by omega) (rng1p_b hp.2 hu) ha hb, mvB]
  rw [seq_set (d := .list (((rng1p p).filter (mvB p a b c d)).map .int)) (by rw [r_lstF, e]; rfl)]
  simp only [List.set_cons_succ, List.set_cons_zero]
  have hl : ((rng1p p).filter (mvB p a b c d)).length ≤ 1000 := Nat.le_trans (List.length_filter_le ..) (by rw [rng1p_len]; omega)
  rw [alikeM, ← List.head?_filter]
  have ap : ∀ xs : List Int, xs.length ≤ 1000 → addD (.list (xs.map .int)) (.list [.none]) = some (.list (xs.map .int ++ [.none])) := by
    intro xs hx
    exact if_pos (by simp [Lim]; omega)
  generalize (rng1p p).filter (mvB p a b c d) = xs at hl
  simp only [r_sRet, r_e2, r_getV, nth0, nthS, r_slV, Option.bind_some, r_mkLst1, r_cst, ap _ hl, o_ixL]
  cases xs with
  | nil => simp [optD]
  | cons x xs => simp [optD]
def ownM (p a b : Int) : List Int := (rng1p p).filter (mvB p a b a b)
theorem F_own_maps_eq {a b p : Int} (hp : 1 < p ∧ p < 1000) (ha : a.natAbs < 1000000) (hb : b.natAbs < 1000000) : F_own_maps [.tuple [.int a, .int b], .int p] = some (tupI (ownM p a b)) := by
  refine run_rt rfl ?_
  show B_own_maps [vP a b, vI p, .unk] = _
  unfold B_own_maps
  have it : iF rng2D (aCons (cst (.int 1)) (aCons (getV 1) aNil)) [vP a b, vI p, .unk] = some ((rng1p p).map .int) := by
    simp [rng2 (p := p) (by omega)]
  have e : lcF (iF rng2D (aCons (cst (.int 1)) (aCons (getV 1) aNil))) [2] (gSet 2) T_own_maps_1 E_own_maps_1 [vP a b, vI p, .unk] = some ((ownM p a b).map .int) := by
    rw [r_lcF, it, Option.bind_some, if_pos (by rw [List.length_map, rng1p_len]; omega), lcL_filter (mvB p a b a b) PyData.int (rng1p p) fun u hu => ⟨_, rfl, ?_, fun _ => by simp [E_own_maps_1, wipeD]⟩]
    · rfl
    · simp [T_own_maps_1, wipeD, F_moved_eq hp (rng1p_b hp.2 hu) ha hb, mvB]
  rw [r_sRet, r_callF, r_aCons, r_lstF, e]
  simp [tupI]
/-! #### roots -/
def rootM (p n : Int) : Option Int := (rng p).find? fun y => decide (y * y % p = n)
theorem F_root_eq {p n : Int} (hp : 0 < p ∧ p < 1000) : F_root [.int n, .int p] = some (optD (rootM p n)) := by
  refine run_rt rfl ?_
  show B_root [vI n, vI p, .unk] = _
  unfold B_root
  have loop := forL_find (f := PyData.int) (g := gSet 2) (B := L_root_1) (fun y => decide (y * y % p = n)) PyData.int (fun ρ => ∃ s, ρ = [vI n, vI p, s]) (rng p) (ρ := [vI n, vI p, .unk]) ⟨_, rfl⟩
    (by
      rintro y _ hy ⟨s, rfl⟩
      have hy := mem_rng.mp hy
      refine ⟨_, rfl, ?_⟩
      simp only [List.set_cons_succ, List.set_cons_zero]
      have e : mulD (.int y) (.int y) = some (.int (y * y)) := o_mul (.inl (by omega))
      by_cases h : y * y % p = n
      · exact .inl ⟨by simp [h], by simp [L_root_1, e, o_mod hp.1, h]⟩
      · exact .inr ⟨by simp [h], [vI n, vI p, vI y], by simp [L_root_1, e, o_mod hp.1, h], _, rfl⟩)
  have it : iF rng1D (aCons (getV 1) aNil) [vI n, vI p, .unk] = some ((rng p).map .int) := by
    simp [rng1 (p := p) (by omega)]
  rcases loop with ⟨u, h1, h2⟩ | ⟨h1, _, h2, s3, rfl⟩
  · rw [seq_rt (by rw [r_sFor, it, Option.bind_some]; exact h2), rootM, h1]
    rfl
  · rw [seq_nx (by rw [r_sFor, it, Option.bind_some]; exact h2), rootM, h1]
    rfl
@[simp] theorem o_noO {o : Option Int} : isNo (optD o) = o.isNone := by cases o <;> rfl
/-! #### the other half -/
def nonR (p : Int) : Int := (((rng1p p).filter fun d => (rootM p d).isNone).head?).getD 0
theorem nonR_in : ∀ p ∈ PR, (1 ≤ nonR p ∧ nonR p < p) ∧ rootM p (nonR p) = none ∧ ((rng1p p).filter fun d => (rootM p d).isNone).head? = some (nonR p) := by decide +kernel
def halfA (p a : Int) : Int := nonR p * nonR p * a % p
def halfB (p b : Int) : Int := nonR p * nonR p * nonR p * b % p
theorem F_other_half_eq {a b p : Int} (hp : p ∈ PR) (ha : a.natAbs < 1000000) (hb : b.natAbs < 1000000) : F_other_half [.tuple [.int a, .int b], .int p] = some (.tuple [.int (halfA p a), .int (halfB p b)]) := by
  have p0 := pr_b hp
  refine run_rt rfl ?_
  show B_other_half [vP a b, vI p, .unk, .unk] = _
  unfold B_other_half
  have it : iF rng2D (aCons (cst (.int 1)) (aCons (getV 1) aNil)) [vP a b, vI p, .unk, .unk] = some ((rng1p p).map .int) := by
    simp [rng2 (p := p) (by omega)]
  have e : lcF (iF rng2D (aCons (cst (.int 1)) (aCons (getV 1) aNil))) [3] (gSet 3) T_other_half_1 E_other_half_1 [vP a b, vI p, .unk, .unk] = some (((rng1p p).filter fun d => (rootM p d).isNone).map .int) := by
    rw [r_lcF, it, Option.bind_some, if_pos (by rw [List.length_map, rng1p_len]; omega), lcL_filter (fun d => (rootM p d).isNone) PyData.int (rng1p p) fun u hu => ⟨_, rfl, ?_, fun _ => by simp [E_other_half_1, wipeD]⟩]
    simp [T_other_half_1, wipeD, F_root_eq (p := p) (by omega)]
  obtain ⟨h1, h2, h3⟩ := nonR_in p hp
  have a0 : atI (((rng1p p).filter fun d => (rootM p d).isNone).map PyData.int) 0 = some (.int (nonR p)) := by
    cases h : (rng1p p).filter fun d => (rootM p d).isNone with
    | nil => rw [h] at h3; cases h3
    | cons x xs => rw [h] at h3; cases h3; simp
  rw [seq_set (d := .int (nonR p)) (by rw [r_e2, r_lstF, e]; simp [a0])]
  simp only [List.set_cons_succ, List.set_cons_zero]
  simp (disch := omega) [halfA, halfB]
/-! #### the mark -/
def topM (a p : Int) : Int := 4 * powM a p 3 % p
def markM (a b p : Int) : Int := topM a p * invM ((topM a p + 27 * powM b p 2) % p) p % p
theorem good_ne {a b p : Int} (c : Cv p a b) : ¬ p ∣ 4 * a * a * a + 27 * b * b := by
  have := c.gd
  unfold goodM at this
  intro h
  rw [Int.emod_eq_zero_of_dvd h] at this
  simp at this
theorem bot_eq {a b p : Int} : p ∣ topM a p + 27 * powM b p 2 - (4 * a * a * a + 27 * b * b) := by
  obtain ⟨q, hq⟩ := pow_dvd a p 3
  obtain ⟨r, hr⟩ := pow_dvd b p 2
  obtain ⟨w, hw⟩ := dvd_mod p (4 * powM a p 3)
  rw [pow3] at hq; rw [pow2] at hr
  refine ⟨4 * q + 27 * r - w, ?_⟩
  unfold topM
  generalize 4 * powM a p 3 % p = z at hw
  grind
theorem dvd_of_dvd_sub {p x y : Int} (h : p ∣ x - y) (k : p ∣ x) : p ∣ y := by
  obtain ⟨q, hq⟩ := h; obtain ⟨r, hr⟩ := k
  exact ⟨r - q, by rw [Int.mul_sub]; omega⟩
theorem F_mark_eq {a b p : Int} (c : Cv p a b) : F_mark [.tuple [.int a, .int b], .int p] = some (.int (markM a b p)) := by
  have p0 := c.p0; have p1 := c.p1; have a0 := c.a0; have a1 := c.a1; have b0 := c.b0; have b1 := c.b1
  refine run_rt rfl ?_
  show B_mark [vP a b, vI p, .unk] = _
  have e3 := F_power_eq (n := a) (k := 3) (p := p) (by omega) (by decide) (by omega)
  have e2' := F_power_eq (n := b) (k := 2) (p := p) (by omega) (by decide) (by omega)
  simp only [show ((3 : Int).toNat) = 3 from rfl] at e3
  simp only [show ((2 : Int).toNat) = 2 from rfl] at e2'
  unfold B_mark
  have m1 : ∀ x, mulD (.int 4) (.int x) = some (.int (4 * x)) := fun x => o_mul (.inl (by decide))
  have m2 : ∀ x, mulD (.int 27) (.int x) = some (.int (27 * x)) := fun x => o_mul (.inl (by decide))
  have p00 : 0 < p := by omega
  rw [seq_set (d := .int (topM a p)) (by simp [e3, m1, o_mod p00, topM])]
  simp only [List.set_cons_succ, List.set_cons_zero]
  have ne : (topM a p + 27 * powM b p 2) % p ≠ 0 := by
    intro h
    exact good_ne c (dvd_of_dvd_sub bot_eq (Int.dvd_of_emod_eq_zero h))
  have hm := md (topM a p + 27 * powM b p 2) p p00
  have ht := md (4 * powM a p 3) p p00
  have hi := F_inverse_eq (n := (topM a p + 27 * powM b p 2) % p) c.pm (by omega) ne
  have m3 : mulD (.int (topM a p)) (.int (invM ((topM a p + 27 * powM b p 2) % p) p)) = some (.int (topM a p * invM ((topM a p + 27 * powM b p 2) % p) p)) := o_mul (.inl (by unfold topM; omega))
  simp [e2', m2, o_mod p00, hi, m3, markM]
/-- the mark is the only number that does -/
theorem mark_iff {a b p n : Int} (c : Cv p a b) (h : 0 ≤ n ∧ n < p) : n = markM a b p ↔ p ∣ n * (4 * a * a * a + 27 * b * b) - 4 * a * a * a := by
  have p0 := c.p0
  have ne : (topM a p + 27 * powM b p 2) % p ≠ 0 := fun h => good_ne c (dvd_of_dvd_sub bot_eq (Int.dvd_of_emod_eq_zero h))
  rw [markM, ← div_uniq c.pm ne h.1 h.2, ← Int.dvd_iff_emod_eq_zero]
  obtain ⟨q, hq⟩ := bot_eq (a := a) (b := b) (p := p)
  have ht : p ∣ topM a p - 4 * a * a * a := by
    obtain ⟨q, hq⟩ := pow_dvd a p 3
    obtain ⟨w, hw⟩ := dvd_mod p (4 * powM a p 3)
    rw [pow3] at hq
    refine ⟨4 * q - w, ?_⟩
    unfold topM
    generalize 4 * powM a p 3 % p = z at hw
    grind
  obtain ⟨t, ht⟩ := ht
  generalize topM a p + 27 * powM b p 2 = B at hq
  generalize topM a p = T at ht
  constructor
  · rintro ⟨k, hk⟩
    exact ⟨k - n * q + t, by grind⟩
  · rintro ⟨k, hk⟩
    exact ⟨k + n * q - t, by grind⟩
theorem mark_b {a b p : Int} (c : Cv p a b) : 0 ≤ markM a b p ∧ markM a b p < p := md _ _ (by have := c.p0; omega)
/-! #### carried -/
theorem F_carried_eq {p u a b : Int} (hp : 0 < p ∧ p < 1000) (hu : u.natAbs < 1000000) {P : List Int} (hP : P ∈ ptsM a b p) : F_carried [.int p, tupI P, .int u] = some (tupI (carM p u P)) := by
  refine run_rt rfl ?_
  show B_carried [vI p, .val (tupI P), vI u] = _
  unfold B_carried
  rcases mem_pts.mp hP with rfl | ⟨x, y, rfl, hx, hy, h⟩
  · exact seq_if_yes (by simp) (by simp [carM, tupI])
  · rw [seq_if_no (by simp)]
    simp (disch := omega) [tupI, carM]
end Pf

-- part Lm18
set_option maxHeartbeats 2000000
namespace Pf
open PySem Cc L2
theorem cut_tail {α : Type} {x : α} {xs : List α} : cutL (x :: xs) (some 1) none = xs := by
  have e : ∀ k : Nat, (HT.sIx (k + 1) 0 (some 1)) = 1 := by intro k; simp [HT.sIx]
  have e2 : ∀ k : Nat, (HT.sIx k k none) = k := by intro k; simp [HT.sIx]
  unfold cutL
  rw [e2, List.length_cons, e]
  simp
@[simp] theorem slice_tail {x : Dt} {xs : List Dt} : sliceD (.list (x :: xs)) (some 1) none = some (.list xs) := by
  show some (PyData.list (cutL (x :: xs) (some 1) none)) = _
  rw [cut_tail]
theorem find_isNone {α : Type} {q : α → Bool} {xs : List α} : (xs.find? q).isNone = decide (xs.filter q = []) := by
  rw [← List.head?_filter]
  cases xs.filter q <;> simp
theorem mem_any_int (x : Int) (xs : List Int) : (xs.map PyData.int).any (fun e => PyData.eqv e (.int x)) = decide (x ∈ xs) := by
  induction xs with
  | nil => simp
  | cons s ts ih =>
    rw [List.map_cons, List.any_cons, ih, PyData.eqv, ibeq, Bool.eq_iff_iff]
    simp only [Bool.or_eq_true, decide_eq_true_eq, List.mem_cons]
    exact ⟨fun h => h.elim (fun h => .inl h.symm) .inr, fun h => h.elim (fun h => .inl h.symm) .inr⟩
@[simp] theorem o_inI {x : Int} {xs : List Int} : inD (.int x) (.list (xs.map .int)) = some (.bool (decide (x ∈ xs))) := by
  unfold inD; simp only []; rw [sh_int, sh_listI, Bool.and_self, if_pos rfl, mem_any_int]
/-! ### moved, halved -/
theorem good_mul {a b p u A B : Int} (c : Cv p a b) (hu : 1 ≤ u ∧ u < p) (h : p ∣ 4 * A * A * A + 27 * B * B - u * u * u * u * u * u * (4 * a * a * a + 27 * b * b)) : goodM A B p = true := by
  unfold goodM
  have : (4 * A * A * A + 27 * B * B) % p ≠ 0 := by
    intro h0
    have h1 := dvd_of_dvd_sub h (Int.dvd_of_emod_eq_zero h0)
    rw [show u * u * u * u * u * u * (4 * a * a * a + 27 * b * b) = u * u * u * (u * u * u * (4 * a * a * a + 27 * b * b)) by grind] at h1
    exact good_ne c (can3 c.pm hu (can3 c.pm hu h1))
  simpa using this
theorem mv_dvd {p u a b A B k l : Int} (hA : u * u * u * u * a - A = p * k) (hB : u * u * u * u * u * u * b - B = p * l) : ∃ z, 4 * A * A * A = u * u * u * u * u * u * (u * u * u * u * u * u) * (4 * a * a * a) + p * z ∧ ∃ w, 27 * B * B = u * u * u * u * u * u * (u * u * u * u * u * u) * (27 * b * b) + p * w := by
  have e1 : A = u * u * u * u * a - p * k := by omega
  have e2 : B = u * u * u * u * u * u * b - p * l := by omega
  refine ⟨4 * (-3 * (u * u * u * u * a) * (u * u * u * u * a) * k + 3 * (u * u * u * u * a) * p * k * k - p * p * k * k * k), ?_, 27 * (-2 * (u * u * u * u * u * u * b) * l + p * l * l), ?_⟩
  · subst e1; clear hA hB; grind
  · subst e2; clear hA hB; grind
theorem hf_dvd {p u a b A B k l : Int} (hA : u * u * a - A = p * k) (hB : u * u * u * b - B = p * l) : ∃ z, 4 * A * A * A = u * u * u * u * u * u * (4 * a * a * a) + p * z ∧ ∃ w, 27 * B * B = u * u * u * u * u * u * (27 * b * b) + p * w := by
  have e1 : A = u * u * a - p * k := by omega
  have e2 : B = u * u * u * b - p * l := by omega
  refine ⟨4 * (-3 * (u * u * a) * (u * u * a) * k + 3 * (u * u * a) * p * k * k - p * p * k * k * k), ?_, 27 * (-2 * (u * u * u * b) * l + p * l * l), ?_⟩
  · subst e1; clear hA hB; grind
  · subst e2; clear hA hB; grind
theorem mv_cv {p u a b : Int} (c : Cv p a b) (hu : 1 ≤ u ∧ u < p) : Cv p (u * u * u * u * a % p) (u * u * u * u * u * u * b % p) := by
  have p0 := c.p0
  have h1 := md (u * u * u * u * a) p (by omega); have h2 := md (u * u * u * u * u * u * b) p (by omega)
  refine ⟨c.pm, h1.1, h1.2, h2.1, h2.2, ?_⟩
  obtain ⟨k, hk⟩ := dvd_mod p (u * u * u * u * a)
  obtain ⟨l, hl⟩ := dvd_mod p (u * u * u * u * u * u * b)
  obtain ⟨z, hz, w, hw⟩ := mv_dvd hk hl
  have hu2 : 1 ≤ u * u % p ∧ u * u % p < p := by
    have := md (u * u) p (by omega)
    refine ⟨?_, this.2⟩
    rcases Int.lt_or_le 0 (u * u % p) with h | h
    · omega
    · have h0 : u * u % p = 0 := by omega
      have := can c.pm hu (Int.dvd_of_emod_eq_zero h0)
      have := Int.le_of_dvd (by omega) this
      omega
  obtain ⟨q, hq⟩ := dvd_mod p (u * u)
  refine good_mul c hu2 ?_
  rw [hz, hw]
  generalize u * u % p = v at hq
  have e : u * u = v + p * q := by omega
  have e6 : u * u * u * u * u * u * (u * u * u * u * u * u) = (u * u) * (u * u) * (u * u) * (u * u) * (u * u) * (u * u) := by grind
  have : ∃ t, (v + p * q) * (v + p * q) * (v + p * q) * (v + p * q) * (v + p * q) * (v + p * q) = v * v * v * v * v * v + p * t := ⟨6 * v ^ 5 * q + 15 * v ^ 4 * p * q ^ 2 + 20 * v ^ 3 * p ^ 2 * q ^ 3 + 15 * v ^ 2 * p ^ 3 * q ^ 4 + 6 * v * p ^ 4 * q ^ 5 + p ^ 5 * q ^ 6, by grind⟩
  obtain ⟨t, ht⟩ := this
  rw [e6, e, ht]
  exact ⟨z + w + t * (4 * a * a * a) + t * (27 * b * b), by grind⟩
theorem hf_cv {p a b : Int} (c : Cv p a b) : Cv p (halfA p a) (halfB p b) := by
  have p0 := c.p0
  have hd := (nonR_in p c.pm).1
  unfold halfA halfB
  generalize nonR p = u at hd
  have h1 := md (u * u * a) p (by omega); have h2 := md (u * u * u * b) p (by omega)
  refine ⟨c.pm, h1.1, h1.2, h2.1, h2.2, ?_⟩
  obtain ⟨k, hk⟩ := dvd_mod p (u * u * a)
  obtain ⟨l, hl⟩ := dvd_mod p (u * u * u * b)
  obtain ⟨z, hz, w, hw⟩ := hf_dvd hk hl
  refine good_mul c hd ?_
  rw [hz, hw]
  exact ⟨z + w, by grind⟩
theorem mark_same {p a b A B W : Int} (c : Cv p a b) (c' : Cv p A B) (h1 : p ∣ 4 * A * A * A - W * (4 * a * a * a)) (h2 : p ∣ 27 * B * B - W * (27 * b * b)) : markM A B p = markM a b p := by
  symm
  refine (mark_iff c' (mark_b c)).mpr ?_
  obtain ⟨k, hk⟩ := (mark_iff c (mark_b c)).mp rfl
  obtain ⟨r, hr⟩ := h1
  obtain ⟨s, hs⟩ := h2
  generalize markM a b p = n at hk
  generalize 4 * A * A * A = X at hr
  generalize 27 * B * B = Y at hs
  generalize 4 * a * a * a = x at hr hk
  generalize 27 * b * b = y at hs hk
  exact ⟨W * k + n * (r + s) - r, by grind⟩
theorem mv_mark {p u a b : Int} (c : Cv p a b) (hu : 1 ≤ u ∧ u < p) : markM (u * u * u * u * a % p) (u * u * u * u * u * u * b % p) p = markM a b p := by
  obtain ⟨k, hk⟩ := dvd_mod p (u * u * u * u * a)
  obtain ⟨l, hl⟩ := dvd_mod p (u * u * u * u * u * u * b)
  obtain ⟨z, hz, w, hw⟩ := mv_dvd hk hl
  exact mark_same (W := u * u * u * u * u * u * (u * u * u * u * u * u)) c (mv_cv c hu) ⟨z, by rw [hz]; omega⟩ ⟨w, by rw [hw]; omega⟩
theorem hf_mark {p a b : Int} (c : Cv p a b) : markM (halfA p a) (halfB p b) p = markM a b p := by
  have c' := hf_cv c
  unfold halfA halfB at c' ⊢
  generalize nonR p = u at c'
  obtain ⟨k, hk⟩ := dvd_mod p (u * u * a)
  obtain ⟨l, hl⟩ := dvd_mod p (u * u * u * b)
  obtain ⟨z, hz, w, hw⟩ := hf_dvd hk hl
  exact mark_same (W := u * u * u * u * u * u) c c' ⟨z, by rw [hz]; omega⟩ ⟨w, by rw [hw]; omega⟩
theorem alike_some {p a b c d u : Int} (hu : 1 ≤ u ∧ u < p) (h1 : u * u * u * u * a % p = c) (h2 : u * u * u * u * u * u * b % p = d) : (alikeM p a b c d).isNone = false := by
  unfold alikeM
  rw [find_isNone, decide_eq_false_iff_not]
  intro h
  have : u ∈ (rng1p p).filter (mvB p a b c d) := List.mem_filter.mpr ⟨mem_rng1p.mpr hu, by simp [mvB, h1, h2]⟩
  rw [h] at this; cases this
theorem alike_ex {p a b c d : Int} (h : (alikeM p a b c d).isNone = false) : ∃ u, (1 ≤ u ∧ u < p) ∧ u * u * u * u * a % p = c ∧ u * u * u * u * u * u * b % p = d := by
  unfold alikeM at h
  rw [find_isNone, decide_eq_false_iff_not] at h
  obtain ⟨u, hu⟩ := List.exists_mem_of_ne_nil _ h
  obtain ⟨h1, h2⟩ := List.mem_filter.mp hu
  exact ⟨u, mem_rng1p.mp h1, of_decide_eq_true h2⟩
/-- the other half of the other half -/
theorem hf_back {p a b : Int} (c : Cv p a b) : (alikeM p (halfA p (halfA p a)) (halfB p (halfB p b)) a b).isNone = false := by
  have p0 := c.p0
  have hd := (nonR_in p c.pm).1
  have hv := inv_one c.pm hd
  refine alike_some (inv_range c.pm hd) (back4 (u := nonR p) (a0 := a) c.pm hv ?_ ⟨c.a0, c.a1⟩) (back6 (u := nonR p) (a0 := b) c.pm hv ?_ ⟨c.b0, c.b1⟩)
  · unfold halfA
    generalize nonR p = u
    refine modeq ?_
    obtain ⟨k, hk⟩ := dvd_mod p (u * u * a)
    generalize u * u * a % p = z at hk
    exact ⟨u * u * k, by grind⟩
  · unfold halfB
    generalize nonR p = u
    refine modeq ?_
    obtain ⟨k, hk⟩ := dvd_mod p (u * u * u * b)
    generalize u * u * u * b % p = z at hk
    exact ⟨u * u * u * k, by grind⟩
theorem hf_count {p a b : Int} (c : Cv p a b) : ((ptsM a b p).length : Int) + (ptsM (halfA p a) (halfB p b) p).length = 2 * p + 2 := by
  have p0 := c.p0
  obtain ⟨p, rfl⟩ := Int.eq_ofNat_of_zero_le (show 0 ≤ p by omega)
  obtain ⟨a, rfl⟩ := Int.eq_ofNat_of_zero_le c.a0
  obtain ⟨b, rfl⟩ := Int.eq_ofNat_of_zero_le c.b0
  obtain ⟨T, d, h⟩ := PT_of c.pm
  have hd : nonR p = d := by
    have : ∀ q ∈ PT, nonR (q.1 : Nat) = (q.2.2 : Nat) := by decide +kernel
    exact this _ h
  have := allC_of (List.all_eq_true.mp PT_tw _ h) c
  unfold twN at this
  rw [Bool.and_eq_true] at this
  have h1 := nbt this.2
  rw [← cnt_eq h (by omega), ← cnt_eq h (by omega)] at h1
  dsimp only at h1
  have eA : halfA p a = ((d * d * a % p : Nat) : Int) := by unfold halfA; rw [hd]; exact cast_mod (by push_cast; rfl)
  have eB : halfB p b = ((d * d * d * b % p : Nat) : Int) := by unfold halfB; rw [hd]; exact cast_mod (by push_cast; rfl)
  rw [eA, eB]
  omega
end Pf

-- part M03
set_option maxHeartbeats 1000000
namespace Pf
open PySem Cc L2
/-! ### texts -/
def numT (i : Int) : Str := toString i
theorem numT_len : ∀ i ∈ rng 32, (numT i).length ≤ 2 := by decide +kernel
theorem strD_num {i : Int} (h : 0 ≤ i ∧ i < 32) : strD [.int i] = some (.str (numT i)) :=
  if_pos (Nat.lt_of_lt_of_le (show i.natAbs < 32 by omega) (by decide +kernel))
theorem numT_ok : ∀ i ∈ rng 32, PyData.strOk (numT i) = true := by decide +kernel
theorem ok_app {x y : Str} (hx : PyData.strOk x = true) (hy : PyData.strOk y = true) : PyData.strOk (x ++ y) = true := by
  unfold PyData.strOk at *
  rw [show (x ++ y).cps = x.cps ++ y.cps from rfl, Array.all_append, hx, hy]; rfl
theorem ok_join {s : Str} (hs : PyData.strOk s = true) : ∀ {ys : List Str}, (∀ y ∈ ys, PyData.strOk y = true) → PyData.strOk (Str.join s ys) = true
  | [], _ => by rw [show Str.join s [] = Str.empty from rfl]; decide +kernel
  | [x], h => h x List.mem_cons_self
  | x :: y :: r, h => by
    show PyData.strOk (x ++ s ++ Str.join s (y :: r)) = true
    exact ok_app (ok_app (h x List.mem_cons_self) hs) (ok_join hs fun z hz => h z (List.mem_cons_of_mem _ hz))
theorem rng_nat {k : Nat} (h : k < 1000000) : rng1D [.int k] = some ((List.range k).map fun i => PyData.int (i : Nat)) := by
  have e := o_rng1 (n := (k : Int)) (by omega)
  rwa [Int.toNat_natCast] at e
theorem it_rng1 {f : EF} {ρ : Dn} {k : Nat} (hk : k < 1000000) (h : f ρ = some (.int k)) : iF rng1D (aCons f aNil) ρ = some ((List.range k).map fun i => PyData.int (i : Nat)) := by
  rw [r_iF, r_aCons, h, Option.bind_some, r_aNil, Option.map_some, Option.bind_some, rng_nat hk]
def ptT (t : List Int) : Str := if t = [] then PySem.Str.ofString "far" else (numT (t.headD 0) ++ PySem.Str.ofString ",") ++ numT ((t.drop 1).headD 0)
theorem add_str {x y : Str} (h : x.length + y.length ≤ 1000) : addD (.str x) (.str y) = some (.str (x ++ y)) := if_pos (Nat.le_trans h (by decide))
theorem F_pt_text {a b p : Int} (c : Cv p a b) {t : List Int} (h : t ∈ ptsM a b p) : F_law_point_text [tupI t] = some (.str (ptT t)) ∧ (ptT t).length ≤ 5 := by
  have p1 := c.p1
  rcases mem_pts.mp h with rfl | ⟨x, y, rfl, hx, hy, _⟩
  · refine ⟨run_rt rfl ?_, by decide +kernel⟩
    show B_law_point_text [.val (tupI [])] = _
    unfold B_law_point_text
    exact seq_if_yes (by simp) (by simp [ptT])
  · have lx := numT_len x (mem_rng.mpr (by omega))
    have ly := numT_len y (mem_rng.mpr (by omega))
    have lc : (PySem.Str.ofString ",").length = 1 := by decide +kernel
    have e : ptT [x, y] = (numT x ++ PySem.Str.ofString ",") ++ numT y := rfl
    refine ⟨run_rt rfl ?_, by rw [e, Str.length_append, Str.length_append, lc]; omega⟩
    show B_law_point_text [.val (tupI [x, y])] = _
    unfold B_law_point_text
    rw [seq_if_no (by simp)]
    have a1 := add_str (x := numT x) (y := PySem.Str.ofString ",") (by omega)
    have a2 := add_str (x := numT x ++ PySem.Str.ofString ",") (y := numT y) (by rw [Str.length_append]; omega)
    simp only [r_sRet, r_e2, r_callF, r_aCons, r_aNil, r_getV, nth0, r_slV, r_cst, tupI, List.map_cons, List.map_nil, Option.bind_some, o_ixT, at0, at1, Option.map_some, strD_num (i := x) (by omega), strD_num (i := y) (by omega), a1, a2, e]
def textM (p a b : Int) (ts : List (List Int)) : Str := Txt.join (PySem.Str.ofString " ") ([numT p, numT a, numT b] ++ ts.map ptT)
theorem F_text {a b p : Int} (c : Cv p a b) {ts : List (List Int)} (h : ∀ t ∈ ts, t ∈ ptsM a b p) (hl : ts.length ≤ 41) : F_law_text [.int p, .tuple [.int a, .int b], .tuple (ts.map tupI)] = some (.str (textM p a b ts)) := by
  have p0 := c.p0; have p1 := c.p1; have a0 := c.a0; have a1 := c.a1; have b0 := c.b0; have b1 := c.b1
  refine run_rt rfl ?_
  show B_law_text [vI p, vP a b, .val (.tuple (ts.map tupI)), .unk] = _
  unfold B_law_text
  have e : lcF (iSeq (getV 2)) [3] (gSet 3) tYesD E_law_text_1 [vI p, vP a b, .val (.tuple (ts.map tupI)), .unk] = some ((ts.map ptT).map .str) := by
    rw [r_lcF, r_iSeq, r_getV, nthS, nthS, nth0, r_slV, r_itemsT, Option.bind_some, if_pos (by rw [List.length_map]; omega), lcL_map (f := tupI) (fun t => .str (ptT t)) ts fun t ht => ⟨_, rfl, rfl, ?_⟩, List.map_map]
    · rfl
    · simp [E_law_text_1, wipeD, (F_pt_text c (h t ht)).1]
  have l3 : mkLst (aCons (callF strD (aCons (getV 0) aNil)) (aCons (callF strD (aCons (e2 ixD (getV 1) (cst (.int 0))) aNil)) (aCons (callF strD (aCons (e2 ixD (getV 1) (cst (.int 1))) aNil)) aNil))) [vI p, vP a b, .val (.tuple (ts.map tupI)), .unk] = some (.list ([numT p, numT a, numT b].map .str)) := by
    unfold mkLst
    simp only [r_callF, r_aCons, r_aNil, r_getV, nth0, nthS, r_slV, r_e2, r_cst, Option.bind_some, o_ixT, at0, at1, Option.map_some, strD_num (i := p) (by omega), strD_num (i := a) (by omega), strD_num (i := b) (by omega)]
    rfl
  have ad : addD (.list ([numT p, numT a, numT b].map .str)) (.list ((ts.map ptT).map .str)) = some (.list (([numT p, numT a, numT b] ++ ts.map ptT).map .str)) := by
    rw [List.map_append]
    exact if_pos (by simp [Lim]; omega)
  have jd : joinD (.str (PySem.Str.ofString " ")) (.list (([numT p, numT a, numT b] ++ ts.map ptT).map .str)) = some (.str (textM p a b ts)) := by
    unfold joinD
    simp only [strsD_map, Option.bind_some]
    have s1 : ∀ us : List (List Int), (∀ t ∈ us, t ∈ ptsM a b p) → ((us.map ptT).map (·.length)).sum ≤ us.length * 5 := by
      intro us
      induction us with
      | nil => intro _; simp
      | cons u us ih =>
        intro hu
        have := ih fun t ht => hu t (List.mem_cons_of_mem _ ht)
        have := (F_pt_text c (hu u List.mem_cons_self)).2
        rw [List.map_cons, List.map_cons, List.sum_cons, List.length_cons]
        omega
    have s2 := s1 ts h
    have lp := numT_len p (mem_rng.mpr (by omega))
    have la := numT_len a (mem_rng.mpr (by omega))
    have lb := numT_len b (mem_rng.mpr (by omega))
    have ls : (PySem.Str.ofString " ").length = 1 := by decide +kernel
    rw [if_pos]
    · rfl
    · rw [List.map_append, List.sum_append, List.length_append, ls]
      simp only [List.map_cons, List.map_nil, List.sum_cons, List.sum_nil, List.length_cons, List.length_nil, List.length_map]
      simp only [List.map_map] at s2 ⊢
      omega
  simp only [r_sRet, r_e2, r_cst, Option.bind_some, l3, r_lstF, e, Option.map_some, ad, jd]
theorem text_ok {a b p : Int} (c : Cv p a b) {ts : List (List Int)} (h : ∀ t ∈ ts, t ∈ ptsM a b p) : PyData.strOk (textM p a b ts) = true := by
  have p0 := c.p0; have p1 := c.p1; have a0 := c.a0; have a1 := c.a1; have b0 := c.b0; have b1 := c.b1
  show PyData.strOk (PySem.Builtin.Str.glued _ _) = true
  rw [StrLaws.glued_eq_join]
  refine ok_join (by decide +kernel) fun y hy => ?_
  rcases List.mem_append.mp hy with hy | hy
  · simp only [List.mem_cons, List.not_mem_nil, or_false] at hy
    rcases hy with rfl | rfl | rfl
    · exact numT_ok p (mem_rng.mpr (by omega))
    · exact numT_ok a (mem_rng.mpr (by omega))
    · exact numT_ok b (mem_rng.mpr (by omega))
  · obtain ⟨t, ht, rfl⟩ := List.mem_map.mp hy
    rcases mem_pts.mp (h t ht) with rfl | ⟨x, y, rfl, hx, hy, _⟩
    · decide +kernel
    · exact ok_app (ok_app (numT_ok x (mem_rng.mpr (by omega))) (by decide +kernel)) (numT_ok y (mem_rng.mpr (by omega)))
theorem F_written_eq {a b p : Int} (c : Cv p a b) {ts : List (List Int)} (h : ∀ t ∈ ts, t ∈ ptsM a b p) (hl : ts.length ≤ 41) : F_written [.int p, .tuple [.int a, .int b], .tuple (ts.map tupI)] = some (.str (textM p a b ts)) := F_text c h hl
theorem F_drawn_points {a b p : Int} (c : Cv p a b) (n : Int) : ∃ ts : List (List Int), (∀ t ∈ ts, t ∈ ptsM a b p) ∧ ts.length ≤ 41 ∧ F_law_drawn_points [.int n, .list ((ptsM a b p).map tupI)] = some (.tuple (ts.map tupI)) := by
  have hpos : (0 : Int) < (ptsM a b p).length := by have := List.length_pos_iff.mpr (pts_ne a b p); omega
  have pk : ∀ k : Nat, ∃ t, t ∈ ptsM a b p ∧ atI ((ptsM a b p).map tupI) (drawn n k / 4 % ((ptsM a b p).length : Int)) = some (tupI t) := fun k => pick_of (pts_ne a b p) (drawn n k / 4)
  have many : ∃ M : Nat, M ≤ 41 ∧ (e2 ixD (mkTup (aCons (e2 modD (getV 0) (cst (.int 6))) (aCons (cst (.int 40)) (aCons (cst (.int 41)) aNil)))) (e2 addD (callF intD (aCons (e2 eqD (e2 modD (e2 fdivD (getV 0) (cst (.int 6))) (cst (.int 9))) (cst (.int 1))) aNil)) (callF intD (aCons (e2 eqD (e2 modD (e2 fdivD (getV 0) (cst (.int 6))) (cst (.int 18))) (cst (.int 1))) aNil)))) [vI n, .val (.list ((ptsM a b p).map tupI)), .unk, .unk] = some (.int M) := by
    have hm := md n 6 (by decide)
    obtain ⟨k, hk⟩ := Int.eq_ofNat_of_zero_le hm.1
    by_cases h1 : n / 6 % 9 = 1
    · by_cases h2 : n / 6 % 18 = 1
      · exact ⟨41, by decide, by simp [h1, h2]⟩
      · exact ⟨40, by decide, by simp [h1, h2]⟩
    · by_cases h2 : n / 6 % 18 = 1
      · exact ⟨40, by decide, by simp [h1, h2]⟩
      · exact ⟨k, by omega, by simp [h1, h2, hk]⟩
  obtain ⟨M, hM, hmany⟩ := many
  let pick : Nat → List Int := fun k => (pk k).choose
  have pick1 : ∀ k, pick k ∈ ptsM a b p := fun k => (pk k).choose_spec.1
  have pick2 : ∀ k : Nat, atI ((ptsM a b p).map tupI) (drawn n k / 4 % ((ptsM a b p).length : Int)) = some (tupI (pick k)) := fun k => (pk k).choose_spec.2
  refine ⟨(List.range M).map pick, ?_, by simp; omega, run_rt rfl ?_⟩
  · intro t ht
    obtain ⟨k, _, rfl⟩ := List.mem_map.mp ht
    exact pick1 k
  show B_law_drawn_points [vI n, .val (.list ((ptsM a b p).map tupI)), .unk, .unk] = _
  unfold B_law_drawn_points
  rw [seq_set hmany]
  simp only [List.set_cons_succ, List.set_cons_zero]
  have it : iF rng1D (aCons (getV 2) aNil) [vI n, .val (.list ((ptsM a b p).map tupI)), vI M, .unk] = some ((List.range M).map fun i => PyData.int (i : Nat)) := it_rng1 (by omega) (by simp)
  have e : lcF (iF rng1D (aCons (getV 2) aNil)) [3] (gSet 3) tYesD E_law_drawn_points_1 [vI n, .val (.list ((ptsM a b p).map tupI)), vI M, .unk] = some (((List.range M).map pick).map tupI) := by
    rw [r_lcF, it, Option.bind_some, if_pos (by simp; omega), lcL_map (f := fun i : Nat => PyData.int (i : Nat)) (fun k => tupI (pick k)) (List.range M) fun k _ => ⟨_, rfl, rfl, ?_⟩, List.map_map]
    · rfl
    · have hmod : ∀ z, modD (.int z) (.int (ptsM a b p).length) = some (.int (z % ((ptsM a b p).length : Int))) := fun z => o_mod hpos
      simp [E_law_drawn_points_1, wipeD, F_drawn, hmod, pick2]
  rw [r_sRet, r_callF, r_aCons, r_lstF, e]
  simp
theorem law_k03_true (ns : List Int) (hl : ns.length ≤ 63) : F_law_k03 ns [] = some (.bool true) := by
  obtain ⟨p, hp, h1⟩ := size_of ns
  obtain ⟨a, b, c, h2⟩ := curve_of ns (k := 1) (by decide) (by decide) hp
  obtain ⟨ts, t1, t2, t3⟩ := F_drawn_points c (mixed ns 2)
  refine runS_rt rfl ?_
  show B_law_k03 [.scr ns, .unk, .unk, .unk] = _
  unfold B_law_k03
  rw [seq_set (h1 _)]
  simp only [List.set_cons_succ, List.set_cons_zero]
  rw [seq_set (h2 _)]
  simp only [List.set_cons_succ, List.set_cons_zero]
  have cut : cutL (ts.map tupI) none (some 40) = (ts.take 40).map tupI := by
    have z1 : ∀ k : Nat, HT.sIx k 0 none = 0 := fun _ => rfl
    have z2 : ∀ k : Nat, HT.sIx k k (some 40) = min 40 k := by intro k; simp [HT.sIx]
    unfold cutL
    rw [z1, z2, List.drop_zero, Nat.sub_zero, ← List.map_take, List.length_map]
    congr 1
    by_cases h : ts.length ≤ 40
    · rw [Nat.min_eq_right h, List.take_of_length_le (Nat.le_refl _), List.take_of_length_le h]
    · rw [Nat.min_eq_left (by omega)]
  rw [seq_set (d := .tuple ((ts.take 40).map tupI)) (by
    simp [F_mixed (ns := ns) (k := 2) (by decide) (by decide), F_law_points_eq c, t3]
    show some (PyData.tuple (cutL _ none (some 40))) = _
    rw [cut, List.map_take])]
  simp only [List.set_cons_succ, List.set_cons_zero]
  have w := F_text c (ts := ts.take 40) (fun t ht => t1 t (List.mem_of_mem_take ht)) (Nat.le_trans (by simp; omega) t2)
  have w2 := F_written_eq c (ts := ts.take 40) (fun t ht => t1 t (List.mem_of_mem_take ht)) (Nat.le_trans (by simp; omega) t2)
  have sh : SeqAt.shaped (.str (textM p a b (ts.take 40))) = true := by simp [SeqAt.shaped, PyData.canLay0, PyData.depth, text_ok c (ts := ts.take 40) fun t ht => t1 t (List.mem_of_mem_take ht)]
  have eq : eqD (.str (textM p a b (ts.take 40))) (.str (textM p a b (ts.take 40))) = some (.bool true) := by
    unfold eqD
    rw [sh, Bool.and_self, if_pos rfl]
    simp [PyData.eqv]
  rw [r_sRet, r_e2, r_callF, r_callF]
  simp only [r_aCons, r_aNil, r_getV, nth0, nthS, r_slV, Option.bind_some, Option.map_some, w, w2, eq]
end Pf

-- part Lm15
set_option maxHeartbeats 2000000
namespace Pf
open PySem Cc L2
/-! ### a point so often -/
def mulM (a p : Int) : Nat → List Int → List Int
  | 0, _ => []
  | k + 1, P => plusM a p (mulM a p k P) P
def mulZ (a p k : Int) (P : List Int) : List Int := if k < 0 then mulM a p k.natAbs (negM p P) else mulM a p k.toNat P
section
variable {p a b m n : Int} {g : Int → Int → List Int}
theorem Gr.mul (G : Gr p a b m n g) (i j : Int) : ∀ k : Nat, mulM a p k (g i j) = g (k * i) (k * j)
  | 0 => by
    rw [mulM, show ((0 : Nat) : Int) * i = 0 by simp, show ((0 : Nat) : Int) * j = 0 by simp, G.z]
  | k + 1 => by
    rw [mulM, Gr.mul G i j k, G.add]
    have e : ∀ x : Int, (k : Int) * x + x = ((k + 1 : Nat) : Int) * x := by intro x; rw [Int.natCast_add, Int.add_mul]; simp
    rw [e, e]
theorem Gr.mulz (G : Gr p a b m n g) (c : Cv p a b) (i j k : Int) : mulZ a p k (g i j) = g (k * i) (k * j) := by
  unfold mulZ
  split
  · next h =>
    rw [G.neg c, G.mul]
    have e : ∀ x : Int, (k.natAbs : Int) * -x = k * x := by
      intro x
      rw [show (k.natAbs : Int) = -k by omega, Int.neg_mul_neg]
    rw [e, e]
  · next h =>
    rw [G.mul, show ((k.toNat : Nat) : Int) = k by omega]
theorem Gr.mul_pts (G : Gr p a b m n g) {P : List Int} (hP : P ∈ ptsM a b p) (k : Nat) : mulM a p k P ∈ ptsM a b p := by
  obtain ⟨i, j, rfl⟩ := G.sur P hP
  rw [G.mul]; exact G.pt _ _
theorem Gr.mulz_pts (G : Gr p a b m n g) (c : Cv p a b) {P : List Int} (hP : P ∈ ptsM a b p) (k : Int) : mulZ a p k P ∈ ptsM a b p := by
  obtain ⟨i, j, rfl⟩ := G.sur P hP
  rw [G.mulz c]; exact G.pt _ _
theorem mulz_nat {k : Nat} {P : List Int} : mulZ a p k P = mulM a p k P := by
  unfold mulZ
  rw [if_neg (by omega)]
  rfl
end
theorem big64 {k : Nat} (h : k < 18446744073709551616) : k < 2 ^ 299 := Nat.lt_of_lt_of_le h (by decide +kernel)
theorem big31 {k : Nat} (h : k < 10000000000000000000000000000000) : k < 2 ^ 299 := Nat.lt_of_lt_of_le h (by decide +kernel)
theorem big32 {k : Nat} (h : k < 20000000000000000000000000000000) : k < 2 ^ 299 := Nat.lt_of_lt_of_le h (by decide +kernel)
theorem big62 {j k : Nat} (h : j < 10000000000000000000000000000000) (h2 : k < 10000000000000000000000000000000) : j * k < 2 ^ 299 := Nat.lt_of_le_of_lt (Nat.mul_le_mul (Nat.le_of_lt h) (Nat.le_of_lt h2)) (by decide +kernel)
theorem pow31 : powD (.int 10) (.int 31) = some (.int 10000000000000000000000000000000) := by simp [powD]
theorem pow30 : powD (.int 10) (.int 30) = some (.int 1000000000000000000000000000000) := by simp [powD]
theorem mul_big {x y : Int} (h : x.natAbs < 10000000000000000000000000000000) (h2 : y.natAbs < 10000000000000000000000000000000) : mulD (.int x) (.int y) = some (.int (x * y)) := by
  refine if_pos ?_
  unfold mulOk
  rw [Bool.or_eq_true, Bool.and_eq_true, decide_eq_true_eq, decide_eq_true_eq]
  exact .inr ⟨Nat.lt_of_lt_of_le h (by decide +kernel), Nat.lt_of_lt_of_le h2 (by decide +kernel)⟩
theorem for_rng1 {f : EF} {g : GF} {B : SF} {ρ ρ' : Dn} {k : Nat} (hk : k < 1000000) (h : f ρ = some (.int k)) (h4 : forL g B ((List.range k).map fun i => PyData.int (i : Nat)) ρ = some (.nx ρ')) : sFor (iF rng1D (aCons f aNil)) g B ρ = some (.nx ρ') := by
  rw [r_sFor, r_iF, r_aCons, h, Option.bind_some, r_aNil, Option.map_some, Option.bind_some, o_rng1 (by omega), Option.bind_some]
  exact h4
theorem while_step {t : TF} {B : SF} {n : Nat} {ρ ρ2 : Dn} (h : t ρ = some true) (h2 : B ρ = some (.nx ρ2)) : whileL t B (n + 1) ρ = whileL t B n ρ2 := by
  show (t ρ).bind (fun k => if k then (match B ρ with | some (.nx ρ2) => whileL t B n ρ2 | r => r) else some (.nx ρ)) = _
  rw [h, h2]; rfl
theorem while_end {t : TF} {B : SF} {n : Nat} {ρ : Dn} (h : t ρ = some false) : whileL t B (n + 1) ρ = some (.nx ρ) := by
  show (t ρ).bind (fun k => if k then (match B ρ with | some (.nx ρ2) => whileL t B n ρ2 | r => r) else some (.nx ρ)) = _
  rw [h]; rfl
theorem times_loop {p a b m n : Int} {g : Int → Int → List Int} (G : Gr p a b m n g) (c : Cv p a b) {s2 s3 : Sl} : ∀ (f l : Nat), l < 2 ^ f → ∀ (i j s t : Int), ∃ s5, whileL W_times_1 L_times_1 (f + 1) [vP a b, vI p, s2, s3, .val (tupI (g i j)), .val (tupI (g s t)), vI l] =
    some (.nx [vP a b, vI p, s2, s3, .val (tupI (g (i + l * s) (j + l * t))), s5, vI 0]) := by
  intro f
  induction f with
  | zero =>
    intro l hl i j s t
    have : l = 0 := by omega
    subst this
    refine ⟨.val (tupI (g s t)), ?_⟩
    rw [while_end (by simp [W_times_1])]
    simp
  | succ f ih =>
    intro l hl i j s t
    by_cases h0 : l = 0
    · subst h0
      refine ⟨.val (tupI (g s t)), ?_⟩
      rw [while_end (by simp [W_times_1])]
      simp
    · have hW : W_times_1 [vP a b, vI p, s2, s3, .val (tupI (g i j)), .val (tupI (g s t)), vI l] = some true := by
        simp [W_times_1]; omega
      have hB : L_times_1 [vP a b, vI p, s2, s3, .val (tupI (g i j)), .val (tupI (g s t)), vI l] = some (.nx [vP a b, vI p, s2, s3, .val (tupI (g (i + (l % 2 : Nat) * s) (j + (l % 2 : Nat) * t))), .val (tupI (g (s + s) (t + t))), vI (l / 2 : Nat)]) := by
        unfold L_times_1
        have e1 : (sIf (tB' (e2 eqD (e2 modD (getV 6) (cst (.int 2))) (cst (.int 1)))) (sSet 4 (callF Pf.F_plus (aCons (getV 0) (aCons (getV 1) (aCons (getV 4) (aCons (getV 5) aNil)))))) sNil) [vP a b, vI p, s2, s3, .val (tupI (g i j)), .val (tupI (g s t)), vI l] =
            some (.nx [vP a b, vI p, s2, s3, .val (tupI (g (i + (l % 2 : Nat) * s) (j + (l % 2 : Nat) * t))), .val (tupI (g s t)), vI l]) := by
          rcases Nat.mod_two_eq_zero_or_one l with h | h
          · have : ((l : Int) % 2) = 0 := by omega
            simp [this, h]
          · have : ((l : Int) % 2) = 1 := by omega
            simp [this, h, F_plus_eq c (G.pt i j) (G.pt s t), G.add]
        rw [seq_nx e1]
        rw [seq_set (d := tupI (g (s + s) (t + t))) (by simp [F_plus_eq c (G.pt s t) (G.pt s t), G.add])]
        simp only [List.set_cons_succ, List.set_cons_zero]
        simp
      obtain ⟨s5, h⟩ := ih (l / 2) (by have : 2 ^ (f + 1) = 2 * 2 ^ f := by rw [Nat.pow_succ, Nat.mul_comm]
                                       omega) (i + (l % 2 : Nat) * s) (j + (l % 2 : Nat) * t) (s + s) (t + t)
      refine ⟨s5, ?_⟩
      rw [while_step hW hB, h]
      have e : ∀ x y : Int, x + ((l % 2 : Nat) : Int) * y + ((l / 2 : Nat) : Int) * (y + y) = x + (l : Int) * y := by
        intro x y
        have : (l : Int) = 2 * ((l / 2 : Nat) : Int) + ((l % 2 : Nat) : Int) := by omega
        generalize ((l / 2 : Nat) : Int) = q at this
        generalize ((l % 2 : Nat) : Int) = r at this
        rw [this]; grind
      rw [e, e]
theorem times_pos {p a b m n : Int} {g : Int → Int → List Int} (G : Gr p a b m n g) (c : Cv p a b) (self : List Dt → Option Dt) {l : Nat} (hl : l < 2 ^ 299) {P : List Int} (hP : P ∈ ptsM a b p) : B_times self [vP a b, vI p, vI l, .val (tupI P), .unk, .unk, .unk] = some (.rt (tupI (mulM a p l P))) := by
  obtain ⟨i, j, rfl⟩ := G.sur P hP
  unfold B_times
  rw [seq_if_no (by simp)]
  rw [seq_set (d := tupI (g 0 0)) (by rw [G.z]; simp [tupI])]
  simp only [List.set_cons_succ, List.set_cons_zero]
  rw [seq_set (d := tupI (g i j)) (by simp)]
  simp only [List.set_cons_succ, List.set_cons_zero]
  rw [seq_set (d := .int l) (by simp)]
  simp only [List.set_cons_succ, List.set_cons_zero]
  obtain ⟨s5, h⟩ := times_loop G c (s2 := vI l) (s3 := .val (tupI (g i j))) 299 l hl 0 0 i j
  rw [seq_nx h]
  simp [G.mul]
theorem F_times_eq {p a b m n : Int} {g : Int → Int → List Int} (G : Gr p a b m n g) (c : Cv p a b) {k : Int} (hk : k.natAbs < 2 ^ 299) {P : List Int} (hP : P ∈ ptsM a b p) : F_times [.tuple [.int a, .int b], .int p, .int k, tupI P] = some (tupI (mulZ a p k P)) := by
  unfold F_times F_times_2
  refine run_rt rfl ?_
  show B_times F_times_1 [vP a b, vI p, vI k, .val (tupI P), .unk, .unk, .unk] = _
  by_cases h : k < 0
  · unfold B_times
    refine seq_if_yes (by simp [h]) ?_
    have e1 : F_times_1 [.tuple [.int a, .int b], .int p, .int (-k), tupI (negM p P)] = some (tupI (mulZ a p k P)) := by
      unfold F_times_1
      refine run_rt rfl ?_
      show B_times F_times_0 [vP a b, vI p, vI (-k), .val (tupI (negM p P)), .unk, .unk, .unk] = _
      rw [show -k = ((k.natAbs : Nat) : Int) by omega, times_pos G c F_times_0 hk (neg_pts c hP), mulZ, if_pos h]
    simp [F_minus_eq c hP, e1]
  · obtain ⟨l, rfl⟩ := Int.eq_ofNat_of_zero_le (show 0 ≤ k by omega)
    rw [times_pos G c F_times_1 (by omega) hP, mulz_nat]
end Pf

-- part Lm16
set_option maxHeartbeats 2000000
namespace Pf
open PySem Cc L2
/-! ### orders -/
def ordM (a p : Int) (P : List Int) : Nat := ((List.range 64).find? fun k => decide (0 < k) && decide (mulM a p k P = [])).getD 0
section
variable {p a b m n : Int} {g : Int → Int → List Int}
theorem Gr.n63 (G : Gr p a b m n g) (c : Cv p a b) : n < 64 := by
  have h := G.card
  have := pts_63 c
  have m0 := G.m0; have n0 := G.n0
  have : n * 1 ≤ n * m := Int.mul_le_mul_of_nonneg_left (by omega) (by omega)
  rw [Int.mul_comm] at h
  omega
theorem Gr.mul_nil (G : Gr p a b m n g) (i j : Int) (k : Nat) : mulM a p k (g i j) = [] ↔ m ∣ k * i ∧ n ∣ k * j := by
  rw [G.mul, ← G.z, G.eq, Int.sub_zero, Int.sub_zero]
theorem Gr.ord (G : Gr p a b m n g) (c : Cv p a b) {P : List Int} (hP : P ∈ ptsM a b p) : 0 < ordM a p P ∧ ordM a p P < 64 ∧ mulM a p (ordM a p P) P = [] ∧ ∀ k, 0 < k → k < ordM a p P → mulM a p k P ≠ [] := by
  have h : ∃ e, (List.range 64).find? (fun k => decide (0 < k) && decide (mulM a p k P = [])) = some e := by
    cases h : (List.range 64).find? (fun k => decide (0 < k) && decide (mulM a p k P = [])) with
    | some e => exact ⟨e, rfl⟩
    | none =>
      have h1 := List.find?_eq_none.mp h n.toNat (List.mem_range.mpr (by have := G.n63 c; omega))
      have n0 := G.n0
      obtain ⟨i, j, rfl⟩ := G.sur P hP
      refine absurd ?_ h1
      rw [Bool.and_eq_true, decide_eq_true_eq, decide_eq_true_eq, G.mul_nil]
      rw [show ((n.toNat : Nat) : Int) = n by omega]
      exact ⟨by omega, Int.dvd_trans G.mn ⟨i, rfl⟩, ⟨j, rfl⟩⟩
  obtain ⟨e, h⟩ := h
  have he : ordM a p P = e := by unfold ordM; rw [h]; rfl
  rw [he]
  obtain ⟨h1, h2, h3⟩ := List.find?_range_eq_some.mp h
  rw [Bool.and_eq_true, decide_eq_true_eq, decide_eq_true_eq] at h1
  refine ⟨h1.1, List.mem_range.mp h2, h1.2, fun k k0 hk q => ?_⟩
  have := h3 k hk
  simp [k0, q] at this
theorem Gr.ord_iff (G : Gr p a b m n g) (c : Cv p a b) {P : List Int} (hP : P ∈ ptsM a b p) (k : Int) : mulZ a p k P = [] ↔ (ordM a p P : Int) ∣ k := by
  obtain ⟨e0, e1, e2, e3⟩ := G.ord c hP
  generalize ordM a p P = e at e0 e1 e2 e3
  obtain ⟨i, j, rfl⟩ := G.sur P hP
  rw [G.mulz c, ← G.z, G.eq, Int.sub_zero, Int.sub_zero]
  obtain ⟨⟨u, hu⟩, ⟨v, hv⟩⟩ := (G.mul_nil i j e).mp e2
  constructor
  · rintro ⟨⟨s, hs⟩, ⟨t, ht⟩⟩
    have hm := md k e (by omega)
    obtain ⟨q, hq⟩ := dvd_mod (e : Int) k
    rcases Int.lt_or_le 0 (k % e) with h | h
    · refine absurd ((G.mul_nil i j (k % (e : Int)).toNat).mpr ?_) (e3 (k % (e : Int)).toNat (by omega) (by omega))
      rw [show (((k % (e : Int)).toNat : Nat) : Int) = k - e * q by omega]
      exact ⟨⟨s - u * q, by grind⟩, ⟨t - v * q, by grind⟩⟩
    · exact ⟨q, by omega⟩
  · rintro ⟨q, rfl⟩
    exact ⟨⟨u * q, by grind⟩, ⟨v * q, by grind⟩⟩
theorem Gr.mul_eq (G : Gr p a b m n g) (c : Cv p a b) {P : List Int} (hP : P ∈ ptsM a b p) (k l : Int) : mulZ a p k P = mulZ a p l P ↔ (ordM a p P : Int) ∣ k - l := by
  rw [← G.ord_iff c hP]
  obtain ⟨i, j, rfl⟩ := G.sur P hP
  rw [G.mulz c, G.mulz c, G.mulz c, G.eq, ← G.z, G.eq, Int.sub_zero, Int.sub_zero, Int.sub_mul, Int.sub_mul]
theorem Gr.ord_n (G : Gr p a b m n g) (c : Cv p a b) {P : List Int} (hP : P ∈ ptsM a b p) : (ordM a p P : Int) ∣ n := by
  rw [← G.ord_iff c hP]
  obtain ⟨i, j, rfl⟩ := G.sur P hP
  rw [G.mulz c, ← G.z, G.eq, Int.sub_zero, Int.sub_zero]
  exact ⟨Int.dvd_trans G.mn ⟨i, rfl⟩, ⟨j, rfl⟩⟩
end
theorem at_last {ds : List Dt} {d : Dt} : atI (ds ++ [d]) (-1) = some d := by
  simp only [atI, ixN]
  rw [if_neg (by omega), if_pos (by simp; omega)]
  have : ((-1 : Int) + (ds ++ [d]).length).toNat = ds.length := by simp; omega
  rw [Option.bind_some, this, List.getElem?_append_right (Nat.le_refl _)]
  simp
def roundsM (a p : Int) (P : List Int) : List (List Int) := (List.range (ordM a p P)).map fun k => mulM a p (k + 1) P
def oftenM (a p : Int) (P : List Int) : List (List Int) := (List.range (ordM a p P)).map fun k => mulM a p k P
section
variable {p a b m n : Int} {g : Int → Int → List Int}
theorem mul_one' {P : List Int} : mulM a p 1 P = P := by
  show plusM a p [] P = P
  exact nil_plus P
theorem rounds_loop (G : Gr p a b m n g) (c : Cv p a b) {P : List Int} (hP : P ∈ ptsM a b p) : ∀ (f k : Nat), 0 < k → k ≤ ordM a p P → ordM a p P ≤ k + f →
    whileL W_rounds_1 L_rounds_1 (f + 1) [vP a b, vI p, .val (tupI P), .own (((List.range k).map fun k => mulM a p (k + 1) P).map tupI)] = some (.nx [vP a b, vI p, .val (tupI P), .own ((roundsM a p P).map tupI)]) := by
  obtain ⟨e0, z1, z2, e3⟩ := G.ord c hP
  have last : ∀ k, 0 < k → atI (((List.range k).map fun k => mulM a p (k + 1) P).map tupI) (-1) = some (tupI (mulM a p k P)) := by
    intro k hk
    obtain ⟨k, rfl⟩ : ∃ l, k = l + 1 := ⟨k - 1, by omega⟩
    rw [List.range_succ, List.map_append, List.map_append]
    exact at_last
  intro f
  induction f with
  | zero =>
    intro k k0 k1 k2
    have : k = ordM a p P := by omega
    subst this
    rw [while_end (by
      simp [-List.map_map, W_rounds_1, last _ k0, z2])]
    rfl
  | succ f ih =>
    intro k k0 k1 k2
    by_cases hk : k = ordM a p P
    · subst hk
      rw [while_end (by simp [-List.map_map, W_rounds_1, last _ k0, z2])]
      rfl
    · have hW : W_rounds_1 [vP a b, vI p, .val (tupI P), .own (((List.range k).map fun k => mulM a p (k + 1) P).map tupI)] = some true := by
        simp [-List.map_map, W_rounds_1, last _ k0, e3 k k0 (by omega)]
      have hB : L_rounds_1 [vP a b, vI p, .val (tupI P), .own (((List.range k).map fun k => mulM a p (k + 1) P).map tupI)] = some (.nx [vP a b, vI p, .val (tupI P), .own (((List.range (k + 1)).map fun k => mulM a p (k + 1) P).map tupI)]) := by
        have e : (callF Pf.F_plus (aCons (getV 0) (aCons (getV 1) (aCons (e2 ixD (getW 3) (e1 negD (cst (.int 1)))) (aCons (getV 2) aNil))))) [vP a b, vI p, .val (tupI P), .own (((List.range k).map fun k => mulM a p (k + 1) P).map tupI)] = some (tupI (mulM a p (k + 1) P)) := by
          show _ = some (tupI (plusM a p (mulM a p k P) P))
          simp [-List.map_map, last _ k0, F_plus_eq c (G.mul_pts hP k) hP]
        unfold L_rounds_1
        rw [r_sApp]
        simp only [nthS, nth0]
        rw [e, Option.bind_some, if_pos (by simp; omega), List.range_succ, List.map_append, List.map_append]
        rfl
      rw [while_step hW hB]
      exact ih (k + 1) (by omega) (by omega) (by omega)
theorem F_rounds_eq (G : Gr p a b m n g) (c : Cv p a b) {P : List Int} (hP : P ∈ ptsM a b p) : F_rounds [.tuple [.int a, .int b], .int p, tupI P] = some (.list ((roundsM a p P).map tupI)) := by
  obtain ⟨e0, z1, z2, e3⟩ := G.ord c hP
  refine run_rt rfl ?_
  show B_rounds [vP a b, vI p, .val (tupI P), .unk] = _
  unfold B_rounds
  have h : whileL W_rounds_1 L_rounds_1 100 _ = _ := rounds_loop G c hP 99 1 (by omega) (by omega) (by omega)
  have e : ((List.range 1).map fun k => mulM a p (k + 1) P) = [P] := by
    show [mulM a p 1 P] = _
    rw [mul_one']
  rw [e] at h
  rw [seq_nx (by rw [r_sSetO, r_lim1, r_getV]; rfl)]
  simp only [List.set_cons_succ, List.set_cons_zero]
  simp only [List.map_cons, List.map_nil] at h
  rw [seq_nx h]
  rw [r_sRetO]
  rfl
theorem F_order_eq (G : Gr p a b m n g) (c : Cv p a b) {P : List Int} (hP : P ∈ ptsM a b p) : F_order [.tuple [.int a, .int b], .int p, tupI P] = some (.int (ordM a p P)) := by
  refine run_rt rfl ?_
  show B_order [vP a b, vI p, .val (tupI P)] = _
  simp [B_order, F_rounds_eq G c hP, roundsM]
theorem often_loop (G : Gr p a b m n g) (c : Cv p a b) {P : List Int} (hP : P ∈ ptsM a b p) : ∀ (f k : Nat), 0 < k → k ≤ ordM a p P → ordM a p P ≤ k + f →
    whileL W_law_often_1 L_law_often_1 (f + 1) [vP a b, vI p, .val (tupI P), .own (((List.range k).map fun k => mulM a p k P).map tupI), .val (tupI (mulM a p k P))] = some (.nx [vP a b, vI p, .val (tupI P), .own ((oftenM a p P).map tupI), .val (tupI [])]) := by
  obtain ⟨e0, z1, z2, e3⟩ := G.ord c hP
  intro f
  have fin : ∀ f, whileL W_law_often_1 L_law_often_1 (f + 1) [vP a b, vI p, .val (tupI P), .own (((List.range (ordM a p P)).map fun k => mulM a p k P).map tupI), .val (tupI (mulM a p (ordM a p P) P))] = some (.nx [vP a b, vI p, .val (tupI P), .own ((oftenM a p P).map tupI), .val (tupI [])]) := by
    intro f
    rw [while_end (by simp [W_law_often_1, z2]), z2]
    rfl
  induction f with
  | zero =>
    intro k k0 k1 k2
    have : k = ordM a p P := by omega
    subst this
    exact fin _
  | succ f ih =>
    intro k k0 k1 k2
    by_cases hk : k = ordM a p P
    · subst hk
      exact fin _
    · have hB : L_law_often_1 [vP a b, vI p, .val (tupI P), .own (((List.range k).map fun k => mulM a p k P).map tupI), .val (tupI (mulM a p k P))] = some (.nx [vP a b, vI p, .val (tupI P), .own (((List.range (k + 1)).map fun k => mulM a p k P).map tupI), .val (tupI (mulM a p (k + 1) P))]) := by
        unfold L_law_often_1
        rw [seq_nx (by
          rw [r_sApp]
          simp only [nthS, nth0, r_getV, r_slV, Option.bind_some]
          rw [if_pos (by simp; omega)])]
        simp only [List.set_cons_succ, List.set_cons_zero]
        simp [F_law_plus_eq c (G.mul_pts hP k) hP, mulM, List.range_succ]
      rw [while_step (by simp [W_law_often_1, e3 k k0 (by omega)]) hB]
      exact ih (k + 1) (by omega) (by omega) (by omega)
theorem F_often_eq (G : Gr p a b m n g) (c : Cv p a b) {P : List Int} (hP : P ∈ ptsM a b p) : F_law_often [.tuple [.int a, .int b], .int p, tupI P] = some (.list ((oftenM a p P).map tupI)) := by
  obtain ⟨e0, z1, z2, e3⟩ := G.ord c hP
  refine run_rt rfl ?_
  show B_law_often [vP a b, vI p, .val (tupI P), .unk, .unk] = _
  unfold B_law_often
  have h : whileL W_law_often_1 L_law_often_1 100 _ = _ := often_loop G c hP 99 1 (by omega) (by omega) (by omega)
  have e : ((List.range 1).map fun k => mulM a p k P) = [[]] := rfl
  rw [e, mul_one'] at h
  simp only [List.map_cons, List.map_nil] at h
  rw [seq_nx (by rw [r_sSetO, r_lim1, r_mkTup0]; rfl)]
  simp only [List.set_cons_succ, List.set_cons_zero]
  rw [seq_set (d := tupI P) (by simp)]
  simp only [List.set_cons_succ, List.set_cons_zero, tupI0]
  rw [seq_nx h]
  rw [r_sRetO]
  rfl
theorem often_len {P : List Int} : (oftenM a p P).length = ordM a p P := by simp [oftenM]
theorem rounds_len {P : List Int} : (roundsM a p P).length = ordM a p P := by simp [roundsM]
end
end Pf

-- part Lm22
set_option maxHeartbeats 2000000
namespace Pf
open PySem Cc L2
/-! ### a complement to an element of the greatest order in Z/m x Z/n -/
def zz (m n x y : Nat) : Bool := Nat.beq (x % m) 0 && Nat.beq (y % n) 0
def fullN (m n u v : Nat) : Bool := allN (fun k => Nat.beq k 0 || !(zz m n (k * u) (k * v))) n
def indN (m n s t u v : Nat) : Bool := Nat.beq (m * t % n) 0 && allN (fun i => allN (fun j => (Nat.beq i 0 && Nat.beq j 0) || !(zz m n (i * s + j * u) (i * t + j * v))) n) m
def cmpN (m n : Nat) : Bool := allN (fun u => allN (fun v => !(fullN m n u v) || anyN (fun s => anyN (fun t => indN m n s t u v) n) m) n) m
def cmpAll : Bool := allN (fun m => Nat.beq m 0 || allN (fun n => Nat.beq n 0 || (!(Nat.beq (n % m) 0) || (Nat.ble 64 (m * n) || cmpN m n))) 64) 64
theorem cmp_ok : cmpAll = true := by decide +kernel
theorem zz_iff {m n x y : Nat} : zz m n x y = true ↔ m ∣ x ∧ n ∣ y := by
  unfold zz
  rw [Bool.and_eq_true]
  constructor
  · rintro ⟨h1, h2⟩
    exact ⟨Nat.dvd_of_mod_eq_zero (nbt h1), Nat.dvd_of_mod_eq_zero (nbt h2)⟩
  · rintro ⟨h1, h2⟩
    exact ⟨nb_t (Nat.mod_eq_zero_of_dvd h1), nb_t (Nat.mod_eq_zero_of_dvd h2)⟩
theorem allN_of {f : Nat → Bool} : ∀ {n : Nat}, (∀ k, k < n → f k = true) → allN f n = true
  | 0, _ => rfl
  | n + 1, h => by rw [allN, Bool.and_eq_true]; exact ⟨h n (by omega), allN_of fun k hk => h k (by omega)⟩
theorem complement {m n u v : Nat} (m0 : 0 < m) (n0 : 0 < n) (mn : n % m = 0) (lt : m * n < 64) (hu : u < m) (hv : v < n) (full : ∀ k, 0 < k → k < n → ¬ (m ∣ k * u ∧ n ∣ k * v)) :
    ∃ s t, s < m ∧ t < n ∧ n ∣ m * t ∧ ∀ i j, i < m → j < n → m ∣ i * s + j * u → n ∣ i * t + j * v → i = 0 ∧ j = 0 := by
  have lm : m < 64 := Nat.lt_of_le_of_lt (Nat.le_mul_of_pos_right m n0) lt
  have ln : n < 64 := Nat.lt_of_le_of_lt (Nat.le_mul_of_pos_left n m0) lt
  have h1 := allN_all cmp_ok m lm
  rw [Bool.or_eq_true] at h1
  have h2 := allN_all (h1.resolve_left fun z => by have := nbt z; omega) n ln
  rw [Bool.or_eq_true] at h2
  have h3 := h2.resolve_left fun z => by have := nbt z; omega
  rw [Bool.or_eq_true, Bool.or_eq_true] at h3
  have h4 : cmpN m n = true := (h3.resolve_left fun z => by rw [nb_t mn] at z; cases z).resolve_left fun z => by have := Nat.le_of_ble_eq_true z; omega
  have h5 := allN_all (allN_all h4 u hu) v hv
  rw [Bool.or_eq_true] at h5
  have hf : fullN m n u v = true := allN_of fun k hk => by
    rw [Bool.or_eq_true]
    by_cases e : k = 0
    · exact .inl (nb_t e)
    · right
      have := full k (by omega) hk
      rw [← zz_iff] at this
      simpa using this
  have h6 := h5.resolve_left fun z => by rw [hf] at z; cases z
  obtain ⟨s, hs, h7⟩ := anyN_ex h6
  obtain ⟨t, ht, h8⟩ := anyN_ex h7
  unfold indN at h8
  rw [Bool.and_eq_true] at h8
  refine ⟨s, t, hs, ht, Nat.dvd_of_mod_eq_zero (nbt h8.1), fun i j hi hj d1 d2 => ?_⟩
  have h9 := allN_all (allN_all h8.2 i hi) j hj
  rw [Bool.or_eq_true] at h9
  rcases h9 with h | h
  · rw [Bool.and_eq_true] at h
    exact ⟨nbt h.1, nbt h.2⟩
  · have := zz_iff.mpr ⟨d1, d2⟩
    rw [this] at h; cases h
end Pf

-- part Lm23
set_option maxHeartbeats 2000000
namespace Pf
open PySem Cc L2
def madeM (a p : Int) (P Q : List Int) : List (List Int) := (roundsM a p P).flatMap fun A => (roundsM a p Q).map fun B => plusM a p A B
section
variable {p a b m n : Int} {g : Int → Int → List Int}
theorem mem_roundsP (G : Gr p a b m n g) {P t : List Int} (hP : P ∈ ptsM a b p) (h : t ∈ roundsM a p P) : t ∈ ptsM a b p := by
  unfold roundsM at h
  obtain ⟨k, _, rfl⟩ := List.mem_map.mp h
  exact G.mul_pts hP _
theorem F_made_eq (G : Gr p a b m n g) (c : Cv p a b) {P Q : List Int} (hP : P ∈ ptsM a b p) (hQ : Q ∈ ptsM a b p) : F_made_by [.tuple [.int a, .int b], .int p, tupI P, tupI Q] = some (.list ((madeM a p P Q).map tupI)) := by
  have hr : (roundsM a p Q).length < 64 := by rw [rounds_len]; exact (G.ord c hQ).2.1
  have hr2 : (roundsM a p P).length < 64 := by rw [rounds_len]; exact (G.ord c hP).2.1
  refine run_rt rfl ?_
  show B_made_by [vP a b, vI p, .val (tupI P), .val (tupI Q), .unk, .unk, .unk] = _
  unfold B_made_by
  have inner : ∀ (A : List Int) (acc : List (List Int)) (s6 : Sl), A ∈ ptsM a b p → acc.length ≤ 10000 → ∃ s6', L_made_by_2 [vP a b, vI p, .val (tupI P), .val (tupI Q), .own (acc.map tupI), .val (tupI A), s6] = some (.nx [vP a b, vI p, .val (tupI P), .val (tupI Q), .own ((acc ++ (roundsM a p Q).map fun B => plusM a p A B).map tupI), .val (tupI A), s6']) := by
    intro A acc s6 hA hl
    unfold L_made_by_2
    have it : iSeq (callF Pf.F_rounds (aCons (getV 0) (aCons (getV 1) (aCons (getV 3) aNil)))) [vP a b, vI p, .val (tupI P), .val (tupI Q), .own (acc.map tupI), .val (tupI A), s6] = some ((roundsM a p Q).map tupI) := by simp [F_rounds_eq G c hQ]
    have loop := forL_ind (f := tupI) (g := gSet 6) (B := L_made_by_1) (roundsM a p Q)
      (fun i ρ => ∃ s6, ρ = [vP a b, vI p, .val (tupI P), .val (tupI Q), .own ((acc ++ ((roundsM a p Q).take i).map fun B => plusM a p A B).map tupI), .val (tupI A), s6]) (ρ := [vP a b, vI p, .val (tupI P), .val (tupI Q), .own (acc.map tupI), .val (tupI A), s6]) ⟨s6, by simp⟩
      (by
        rintro i B _ hB ⟨s6, rfl⟩
        have hm := mem_roundsP G hQ (List.mem_of_getElem? hB)
        have hi := (List.getElem?_eq_some_iff.mp hB).1
        refine ⟨_, [vP a b, vI p, .val (tupI P), .val (tupI Q), .own ((acc ++ ((roundsM a p Q).take (i + 1)).map fun B => plusM a p A B).map tupI), .val (tupI A), .val (tupI B)], rfl, ?_, _, rfl⟩
        simp only [List.set_cons_succ, List.set_cons_zero]
        unfold L_made_by_1
        rw [r_sApp]
        have e : (callF Pf.F_plus (aCons (getV 0) (aCons (getV 1) (aCons (getV 5) (aCons (getV 6) aNil))))) [vP a b, vI p, .val (tupI P), .val (tupI Q), .own ((acc ++ ((roundsM a p Q).take i).map fun B => plusM a p A B).map tupI), .val (tupI A), .val (tupI B)] = some (tupI (plusM a p A B)) := by
          simp [-List.map_map, -List.map_append, F_plus_eq c hA hm]
        simp only [nthS, nth0]
        rw [e, Option.bind_some, if_pos (by simp; omega), List.take_add_one, hB]
        simp)
    obtain ⟨_, h4, s6', rfl⟩ := loop
    refine ⟨s6', ?_⟩
    rw [r_sFor, it, Option.bind_some, h4, List.take_length]
  rw [seq_nx (by rw [r_sSetO, r_lim0]; rfl)]
  simp only [List.set_cons_succ, List.set_cons_zero]
  have it : iSeq (callF Pf.F_rounds (aCons (getV 0) (aCons (getV 1) (aCons (getV 2) aNil)))) [vP a b, vI p, .val (tupI P), .val (tupI Q), .own [], .unk, .unk] = some ((roundsM a p P).map tupI) := by simp [F_rounds_eq G c hP]
  have loop := forL_ind (f := tupI) (g := gSet 5) (B := L_made_by_2) (roundsM a p P)
    (fun i ρ => ∃ s5 s6, ρ = [vP a b, vI p, .val (tupI P), .val (tupI Q), .own ((((roundsM a p P).take i).flatMap fun A => (roundsM a p Q).map fun B => plusM a p A B).map tupI), s5, s6]) (ρ := [vP a b, vI p, .val (tupI P), .val (tupI Q), .own [], .unk, .unk]) ⟨.unk, .unk, by simp⟩
    (by
      rintro i A _ hA ⟨s5, s6, rfl⟩
      have hm := mem_roundsP G hP (List.mem_of_getElem? hA)
      have hi := (List.getElem?_eq_some_iff.mp hA).1
      have hl : (((roundsM a p P).take i).flatMap fun A => (roundsM a p Q).map fun B => plusM a p A B).length ≤ 10000 := by
        have h2 : ∀ xs : List (List Int), (xs.flatMap fun A => (roundsM a p Q).map fun B => plusM a p A B).length = xs.length * (roundsM a p Q).length := by
          intro xs
          induction xs with
          | nil => simp
          | cons x xs ih => rw [List.flatMap_cons, List.length_append, List.length_map, ih, List.length_cons, Nat.add_mul]; omega
        rw [h2]
        have : ((roundsM a p P).take i).length ≤ 64 := by rw [List.length_take]; omega
        exact Nat.le_trans (Nat.mul_le_mul this (Nat.le_of_lt hr)) (by decide)
      obtain ⟨s6', h⟩ := inner A _ s6 hm hl
      refine ⟨_, _, rfl, h, .val (tupI A), s6', ?_⟩
      rw [List.take_add_one, hA]
      simp)
  obtain ⟨_, h4, s5, s6, rfl⟩ := loop
  rw [seq_nx (by rw [r_sFor, it, Option.bind_some]; exact h4), List.take_length, r_sRetO]
  rfl
end
end Pf

-- part Lm24
set_option maxHeartbeats 2000000
namespace Pf
open PySem Cc L2
/-! ### a group within the group of a curve -/
structure Gs (p a b m n : Int) (ts : List (List Int)) (h : Int → Int → List Int) : Prop where
  m0 : 0 < m
  n0 : 0 < n
  mn : m ∣ n
  sub : ∀ t ∈ ts, t ∈ ptsM a b p
  nd : ts.Nodup
  pt : ∀ i j, h i j ∈ ts
  sur : ∀ P ∈ ts, ∃ i j, P = h i j
  eq : ∀ i j k l, h i j = h k l ↔ m ∣ i - k ∧ n ∣ j - l
  add : ∀ i j k l, plusM a p (h i j) (h k l) = h (i + k) (j + l)
  z : h 0 0 = []
theorem Gr.gs {p a b m n : Int} {g : Int → Int → List Int} (G : Gr p a b m n g) : Gs p a b m n (ptsM a b p) g :=
  ⟨G.m0, G.n0, G.mn, fun _ h => h, pts_nodup a b p, G.pt, G.sur, G.eq, G.add, G.z⟩
section
variable {p a b m n : Int} {ts : List (List Int)} {h : Int → Int → List Int}
theorem Gs.mul (S : Gs p a b m n ts h) (i j : Int) : ∀ k : Nat, mulM a p k (h i j) = h (k * i) (k * j)
  | 0 => by rw [mulM, show ((0 : Nat) : Int) * i = 0 by simp, show ((0 : Nat) : Int) * j = 0 by simp, S.z]
  | k + 1 => by
    rw [mulM, Gs.mul S i j k, S.add]
    have e : ∀ x : Int, (k : Int) * x + x = ((k + 1 : Nat) : Int) * x := by intro x; rw [Int.natCast_add, Int.add_mul]; simp
    rw [e, e]
theorem Gs.mul_nil (S : Gs p a b m n ts h) (i j : Int) (k : Nat) : mulM a p k (h i j) = [] ↔ m ∣ k * i ∧ n ∣ k * j := by
  rw [S.mul, ← S.z, S.eq, Int.sub_zero, Int.sub_zero]
/-- the order is known by two things -/
theorem ord_is {M N : Int} {g : Int → Int → List Int} (G : Gr p a b M N g) (c : Cv p a b) {P : List Int} (hP : P ∈ ptsM a b p) {e : Nat} (e0 : 0 < e) (e1 : mulM a p e P = []) (e2 : ∀ k, 0 < k → k < e → mulM a p k P ≠ []) : ordM a p P = e := by
  obtain ⟨f0, _, f1, f2⟩ := G.ord c hP
  rcases Nat.lt_trichotomy (ordM a p P) e with q | q | q
  · exact absurd f1 (e2 _ f0 q)
  · exact q
  · exact absurd e1 (f2 _ e0 q)
theorem Gs.ord_le (S : Gs p a b m n ts h) {M N : Int} {g : Int → Int → List Int} (G : Gr p a b M N g) (c : Cv p a b) {P : List Int} (hP : P ∈ ts) : (ordM a p P : Int) ∣ n := by
  have n0 := S.n0
  obtain ⟨i, j, rfl⟩ := S.sur P hP
  have e : mulM a p n.toNat (h i j) = [] := by
    rw [S.mul_nil, show ((n.toNat : Nat) : Int) = n by omega]
    exact ⟨Int.dvd_trans S.mn ⟨i, rfl⟩, ⟨j, rfl⟩⟩
  rw [← mulz_nat, G.ord_iff c (S.sub _ hP), show ((n.toNat : Nat) : Int) = n by omega] at e
  exact e
theorem Gs.ord_n (S : Gs p a b m n ts h) {M N : Int} {g : Int → Int → List Int} (G : Gr p a b M N g) (c : Cv p a b) : (ordM a p (h 0 1) : Int) = n := by
  have n0 := S.n0
  have := ord_is G c (S.sub _ (S.pt 0 1)) (e := n.toNat) (by omega) (by
    rw [S.mul_nil, show ((n.toNat : Nat) : Int) = n by omega]
    exact ⟨⟨0, by simp⟩, ⟨1, by simp⟩⟩) fun k k0 k1 q => by
      rw [S.mul_nil] at q
      have := Int.le_of_dvd (by omega) q.2
      omega
  omega
theorem Gs.compl (S : Gs p a b m n ts h) {M N : Int} {g : Int → Int → List Int} (G : Gr p a b M N g) (c : Cv p a b) (hlt : m * n < 64) {Q : List Int} (hQ : Q ∈ ts) (ho : (ordM a p Q : Int) = n) :
    ∃ s t u v : Int, Q = h u v ∧ n ∣ m * t ∧ (ordM a p (h s t) : Int) = m ∧ ∀ i j : Int, m ∣ i * s + j * u → n ∣ i * t + j * v → m ∣ i ∧ n ∣ j := by
  have m0 := S.m0; have n0 := S.n0
  obtain ⟨u', v', eQ⟩ := S.sur Q hQ
  obtain ⟨m, rfl⟩ := Int.eq_ofNat_of_zero_le (show 0 ≤ m by omega)
  obtain ⟨n, rfl⟩ := Int.eq_ofNat_of_zero_le (show 0 ≤ n by omega)
  have hu := md u' m m0
  have hv := md v' n n0
  obtain ⟨u, eu⟩ := Int.eq_ofNat_of_zero_le hu.1
  obtain ⟨v, ev⟩ := Int.eq_ofNat_of_zero_le hv.1
  have eQ2 : Q = h u v := by
    rw [eQ, S.eq]
    have d1 := dvd_mod (m : Int) u'
    have d2 := dvd_mod (n : Int) v'
    rw [eu] at d1; rw [ev] at d2
    exact ⟨d1, d2⟩
  have full : ∀ k, 0 < k → k < n → ¬ (m ∣ k * u ∧ n ∣ k * v) := by
    rintro k k0 k1 ⟨q1, q2⟩
    have := (G.ord c (S.sub _ hQ)).2.2.2 k k0 (by omega)
    rw [eQ2, Ne, S.mul_nil] at this
    exact this ⟨by exact_mod_cast Int.natCast_dvd_natCast.mpr q1, by exact_mod_cast Int.natCast_dvd_natCast.mpr q2⟩
  obtain ⟨s, t, hs, ht, nt, ind⟩ := complement (m := m) (n := n) (u := u) (v := v) (by omega) (by omega) (Nat.mod_eq_zero_of_dvd (Int.natCast_dvd_natCast.mp S.mn)) (by exact_mod_cast hlt) (by omega) (by omega) full
  have nt' : (n : Int) ∣ (m : Int) * t := by exact_mod_cast Int.natCast_dvd_natCast.mpr nt
  have ind' : ∀ i j : Int, (m : Int) ∣ i * s + j * u → (n : Int) ∣ i * t + j * v → (m : Int) ∣ i ∧ (n : Int) ∣ j := by
    intro i j d1 d2
    have hi := md i m m0
    have hj := md j n n0
    obtain ⟨qi, ei⟩ := dvd_mod (m : Int) i
    obtain ⟨qj, ej⟩ := dvd_mod (n : Int) j
    obtain ⟨i0, hi0⟩ := Int.eq_ofNat_of_zero_le hi.1
    obtain ⟨j0, hj0⟩ := Int.eq_ofNat_of_zero_le hj.1
    rw [hi0] at ei hi; rw [hj0] at ej hj
    have ei : i = i0 + m * qi := by omega
    have ej : j = j0 + n * qj := by omega
    obtain ⟨w, hw⟩ := S.mn
    obtain ⟨y, hy⟩ := nt'
    have e1 : (m : Int) ∣ (i0 : Int) * s + (j0 : Int) * u := by
      obtain ⟨x, hx⟩ := d1
      refine ⟨x - qi * s - w * qj * u, ?_⟩
      rw [ei, ej] at hx
      generalize (n : Int) = n' at hx hw
      subst hw
      grind
    have e2 : (n : Int) ∣ (i0 : Int) * t + (j0 : Int) * v := by
      obtain ⟨x, hx⟩ := d2
      refine ⟨x - y * qi - qj * v, ?_⟩
      rw [ei, ej] at hx
      have hx2 : (i0 : Int) * t + j0 * v + (m : Int) * t * qi + n * qj * v = n * x := by rw [← hx]; grind
      rw [hy] at hx2
      grind
    have := ind i0 j0 (by omega) (by omega) (by exact_mod_cast e1) (by exact_mod_cast e2)
    rw [ei, ej, this.1, this.2]
    exact ⟨⟨qi, by simp⟩, ⟨qj, by simp⟩⟩
  refine ⟨s, t, u, v, eQ2, nt', ?_, ind'⟩
  have := ord_is G c (S.sub _ (S.pt s t)) (e := m) (by omega) (by
    rw [S.mul_nil]
    exact ⟨⟨s, rfl⟩, nt'⟩) fun k k0 k1 q => by
      rw [S.mul_nil] at q
      have := (ind' k 0 (by simpa using q.1) (by simpa using q.2)).1
      have := Int.le_of_dvd (by omega) this
      omega
  omega
theorem nodup_prod {α β γ : Type} {f : α → β → γ} {ys : List β} (hy : ys.Nodup) : ∀ {xs : List α}, xs.Nodup → (∀ x ∈ xs, ∀ y ∈ ys, ∀ x' ∈ xs, ∀ y' ∈ ys, f x y = f x' y' → x = x' ∧ y = y') → (xs.flatMap fun x => ys.map (f x)).Nodup
  | [], _, _ => List.nodup_nil
  | x :: xs, hd, inj => by
    have hx := List.nodup_cons.mp hd
    rw [List.flatMap_cons, List.nodup_append]
    refine ⟨nodup_map hy fun y hy y' hy' e => (inj x List.mem_cons_self y hy x List.mem_cons_self y' hy' e).2, nodup_prod hy hx.2 fun z hz y hy z' hz' y' hy' => inj z (List.mem_cons_of_mem _ hz) y hy z' (List.mem_cons_of_mem _ hz') y' hy', ?_⟩
    intro P hP R hR e
    subst e
    obtain ⟨y, hy, rfl⟩ := List.mem_map.mp hP
    obtain ⟨z, hz, hR⟩ := List.mem_flatMap.mp hR
    obtain ⟨y', hy', e⟩ := List.mem_map.mp hR
    have := (inj z (List.mem_cons_of_mem _ hz) y' hy' x List.mem_cons_self y hy e).1
    exact hx.1 (this ▸ hz)
theorem made_as {P Q : List Int} : madeM a p P Q = (List.range (ordM a p P)).flatMap fun i => (List.range (ordM a p Q)).map fun j => plusM a p (mulM a p (i + 1) P) (mulM a p (j + 1) Q) := by
  unfold madeM roundsM
  rw [List.flatMap_map]
  congr 1
  funext i
  rw [List.map_map]
  rfl
theorem Gs.made_nd (S : Gs p a b m n ts h) {s t u v : Int} (h1 : (ordM a p (h s t) : Int) = m) (h2 : (ordM a p (h u v) : Int) = n) (ind : ∀ i j : Int, m ∣ i * s + j * u → n ∣ i * t + j * v → m ∣ i ∧ n ∣ j) : (madeM a p (h s t) (h u v)).Nodup := by
  rw [made_as]
  refine nodup_prod List.nodup_range List.nodup_range fun i hi j hj i' hi' j' hj' e => ?_
  have hi := List.mem_range.mp hi; have hj := List.mem_range.mp hj
  have hi' := List.mem_range.mp hi'; have hj' := List.mem_range.mp hj'
  rw [S.mul, S.mul, S.mul, S.mul, S.add, S.add, S.eq] at e
  have q := ind ((i : Int) - i') ((j : Int) - j') (by
    have := e.1
    rwa [show ((i + 1 : Nat) : Int) * s + ((j + 1 : Nat) : Int) * u - (((i' + 1 : Nat) : Int) * s + ((j' + 1 : Nat) : Int) * u) = ((i : Int) - i') * s + ((j : Int) - j') * u by push_cast; grind] at this) (by
    have := e.2
    rwa [show ((i + 1 : Nat) : Int) * t + ((j + 1 : Nat) : Int) * v - (((i' + 1 : Nat) : Int) * t + ((j' + 1 : Nat) : Int) * v) = ((i : Int) - i') * t + ((j : Int) - j') * v by push_cast; grind] at this)
  have z1 := small_eq (p := m) (x := i) (y := i') (by omega) (by omega) q.1
  have z2 := small_eq (p := n) (x := j) (y := j') (by omega) (by omega) q.2
  omega
end
end Pf

-- part M22
set_option maxHeartbeats 1000000
namespace Pf
open PySem Cc L2
theorem index_of {ts : List (List Int)} {t : List Int} {k : Nat} (hd : ts.Nodup) (h : ts[k]? = some t) : indexD (.list (ts.map tupI)) [tupI t] = some (.int k) := by
  obtain ⟨hk, e⟩ := List.getElem?_eq_some_iff.mp h
  have f : (ts.map tupI).findIdx? (fun z => PyData.eqv z (tupI t)) = some k := by
    rw [List.findIdx?_eq_some_iff_getElem]
    refine ⟨by rw [List.length_map]; exact hk, ?_, fun j hj => ?_⟩
    · simp [eqv_tupI, e]
    · have hj2 : j < ts.length := by omega
      simp only [List.getElem_map, eqv_tupI, decide_eq_true_eq]
      intro q
      rw [← e] at q
      have := (List.getElem_inj hd (h₁ := hk) (h₀ := hj2)).mp q
      omega
  unfold indexD
  simp only []
  rw [sh_listT, sh_tupI, Bool.and_self, if_pos rfl, f]
  rfl
section
variable {p a b m n : Int} {g : Int → Int → List Int}
theorem Gr.mul_inj (G : Gr p a b m n g) (c : Cv p a b) {P : List Int} (hP : P ∈ ptsM a b p) {k l : Nat} (hk : k < ordM a p P) (hl : l < ordM a p P) (h : mulM a p k P = mulM a p l P) : k = l := by
  rw [← mulz_nat, ← mulz_nat, G.mul_eq c hP] at h
  have := small_eq (p := ordM a p P) (by omega) (by omega) h
  omega
theorem Gr.often_nodup (G : Gr p a b m n g) (c : Cv p a b) {P : List Int} (hP : P ∈ ptsM a b p) : (oftenM a p P).Nodup :=
  nodup_map List.nodup_range fun k hk l hl e => G.mul_inj c hP (List.mem_range.mp hk) (List.mem_range.mp hl) e
theorem Gr.rounds_nodup (G : Gr p a b m n g) (c : Cv p a b) {P : List Int} (hP : P ∈ ptsM a b p) : (roundsM a p P).Nodup := by
  refine nodup_map List.nodup_range fun k hk l hl e => ?_
  have hk := List.mem_range.mp hk; have hl := List.mem_range.mp hl
  rw [← mulz_nat, ← mulz_nat, G.mul_eq c hP, show ((k + 1 : Nat) : Int) - ((l + 1 : Nat) : Int) = (k : Int) - l by omega] at e
  have := small_eq (p := ordM a p P) (by omega) (by omega) e
  omega
theorem mem_often {P Q : List Int} : Q ∈ oftenM a p P ↔ ∃ k, k < ordM a p P ∧ Q = mulM a p k P := by
  unfold oftenM
  rw [List.mem_map]
  exact ⟨fun ⟨k, h, e⟩ => ⟨k, List.mem_range.mp h, e.symm⟩, fun ⟨k, h, e⟩ => ⟨k, List.mem_range.mpr h, e.symm⟩⟩
theorem Gr.mem_rounds (G : Gr p a b m n g) (c : Cv p a b) {P Q : List Int} (hP : P ∈ ptsM a b p) : Q ∈ roundsM a p P ↔ Q ∈ oftenM a p P := by
  obtain ⟨e0, z1, z2, e3⟩ := G.ord c hP
  rw [mem_often]
  unfold roundsM
  rw [List.mem_map]
  constructor
  · rintro ⟨k, h, rfl⟩
    have h := List.mem_range.mp h
    by_cases q : k + 1 = ordM a p P
    · exact ⟨0, e0, by rw [q, z2]; rfl⟩
    · exact ⟨k + 1, by omega, rfl⟩
  · rintro ⟨k, h, rfl⟩
    by_cases q : k = 0
    · subst q
      exact ⟨ordM a p P - 1, List.mem_range.mpr (by omega), by rw [show ordM a p P - 1 + 1 = ordM a p P by omega, z2]; rfl⟩
    · exact ⟨k - 1, List.mem_range.mpr (by omega), by rw [show k - 1 + 1 = k by omega]⟩
theorem steps_in (G : Gr p a b m n g) (c : Cv p a b) {P : List Int} (hP : P ∈ ptsM a b p) {k : Nat} (hk : k < ordM a p P) : F_steps [.tuple [.int a, .int b], .int p, tupI P, tupI (mulM a p k P)] = some (.int k) := by
  obtain ⟨e0, z1, z2, e3⟩ := G.ord c hP
  refine run_rt rfl ?_
  show B_steps [vP a b, vI p, .val (tupI P), .val (tupI (mulM a p k P)), .unk] = _
  unfold B_steps
  by_cases h : k = 0
  · subst h
    exact seq_if_yes (by simp [mulM]) (by simp)
  · rw [seq_if_no (by simp [e3 k (by omega) hk])]
    rw [seq_set (d := .list ((roundsM a p P).map tupI)) (by simp [F_rounds_eq G c hP])]
    simp only [List.set_cons_succ, List.set_cons_zero]
    rw [seq_if_no (by simp [(G.mem_rounds c hP).mpr (mem_often.mpr ⟨k, hk, rfl⟩)])]
    have hi := index_of (G.rounds_nodup c hP) (k := k - 1) (t := mulM a p k P) (by
      unfold roundsM
      rw [List.getElem?_map, List.getElem?_range (by omega), Option.map_some, show k - 1 + 1 = k by omega])
    simp [hi]
    omega
theorem steps_out (G : Gr p a b m n g) (c : Cv p a b) {P Q : List Int} (hP : P ∈ ptsM a b p) (h : Q ∉ oftenM a p P) : F_steps [.tuple [.int a, .int b], .int p, tupI P, tupI Q] = some .none := by
  obtain ⟨e0, z1, z2, e3⟩ := G.ord c hP
  refine run_rt rfl ?_
  show B_steps [vP a b, vI p, .val (tupI P), .val (tupI Q), .unk] = _
  unfold B_steps
  have hQ : Q ≠ [] := by
    rintro rfl
    exact h (mem_often.mpr ⟨0, e0, rfl⟩)
  rw [seq_if_no (by simp [hQ])]
  rw [seq_set (d := .list ((roundsM a p P).map tupI)) (by simp [F_rounds_eq G c hP])]
  simp only [List.set_cons_succ, List.set_cons_zero]
  exact seq_if_yes (by simp [G.mem_rounds c hP, h]) (by simp)
end
@[simp] theorem isBool_none : isBool .none = some (.bool false) := rfl
theorem law_k22_true (ns : List Int) (hl : ns.length ≤ 63) : F_law_k22 ns [] = some (.bool true) := by
  obtain ⟨p, hp, h1⟩ := size_of ns
  obtain ⟨a, b, c, h2⟩ := curve_of ns (k := 1) (by decide) (by decide) hp
  obtain ⟨m, n, g, G⟩ := group_of c
  have p0 := c.p0; have p1 := c.p1
  have hlen := pts_len (a := a) (b := b) (p := p) (by omega) p1
  obtain ⟨P, hP, hpk⟩ := pick_of (pts_ne a b p) (mixed ns 2)
  have hpos : (0 : Int) < (ptsM a b p).length := by have := List.length_pos_iff.mpr (pts_ne a b p); omega
  obtain ⟨e0, z1, z2, e3⟩ := G.ord c hP
  refine runS_rt rfl ?_
  show B_law_k22 [.scr ns, .unk, .unk, .unk, .unk, .unk, .unk, .unk, .unk] = _
  unfold B_law_k22
  rw [seq_set (h1 _)]
  simp only [List.set_cons_succ, List.set_cons_zero]
  rw [seq_set (h2 _)]
  simp only [List.set_cons_succ, List.set_cons_zero]
  rw [seq_set (d := .list ((ptsM a b p).map tupI)) (by simp [F_law_points_eq c])]
  simp only [List.set_cons_succ, List.set_cons_zero]
  rw [seq_set (d := tupI P) (by simp [F_mixed (ns := ns) (k := 2) (by decide) (by decide)]; rw [o_mod hpos]; exact hpk)]
  simp only [List.set_cons_succ, List.set_cons_zero]
  rw [seq_set (d := .list ((oftenM a p P).map tupI)) (by simp [F_often_eq G c hP])]
  simp only [List.set_cons_succ, List.set_cons_zero]
  have loop := forL_ind (f := tupI) (g := gSet 6) (B := L_law_k22_1) (ptsM a b p)
    (fun _ ρ => ∃ s6 s8, ρ = [.scr ns, vI p, vP a b, .val (.list ((ptsM a b p).map tupI)), .val (tupI P), .val (.list ((oftenM a p P).map tupI)), s6, .unk, s8]) (ρ := [.scr ns, vI p, vP a b, .val (.list ((ptsM a b p).map tupI)), .val (tupI P), .val (.list ((oftenM a p P).map tupI)), .unk, .unk, .unk]) ⟨_, _, rfl⟩
    (by
      rintro i Q _ hQ ⟨s6, s8, rfl⟩
      replace hQ := List.mem_of_getElem? hQ
      by_cases h : Q ∈ oftenM a p P
      · obtain ⟨k, hk, e⟩ := mem_often.mp h
        have hi := index_of (G.often_nodup c hP) (k := k) (t := Q) (by
          unfold oftenM
          rw [List.getElem?_map, List.getElem?_range hk, Option.map_some, e])
        have st := steps_in G c hP hk
        rw [← e] at st
        refine ⟨_, _, rfl, ?_, .val (tupI Q), vI k, rfl⟩
        simp only [List.set_cons_succ, List.set_cons_zero]
        unfold L_law_k22_1
        rw [seq_set (d := .int k) (by simp [st])]
        simp only [List.set_cons_succ, List.set_cons_zero]
        simp [h, hi]
      · refine ⟨_, _, rfl, ?_, .val (tupI Q), .val .none, rfl⟩
        simp only [List.set_cons_succ, List.set_cons_zero]
        unfold L_law_k22_1
        rw [seq_set (d := .none) (by simp [steps_out G c hP h])]
        simp only [List.set_cons_succ, List.set_cons_zero]
        simp [h, neD, sh_non, PyData.eqv])
  obtain ⟨_, h4, s6, s8, rfl⟩ := loop
  rw [seq_nx (by rw [r_sFor]; simpa using h4)]
  have b1 := md (cell ns 3) 1000000000000000000000000000000 (by decide)
  rw [seq_set (d := .int (cell ns 3 % 1000000000000000000000000000000)) (by simp [pow30, F_cell (ns := ns) (k := 3) (by decide)])]
  simp only [List.set_cons_succ, List.set_cons_zero]
  generalize cell ns 3 % 1000000000000000000000000000000 = x at b1
  have hx := big31 (k := x.natAbs) (by omega)
  have hm := md x (ordM a p P) (by omega)
  have st := steps_in G c hP (k := (x % (ordM a p P : Int)).toNat) (by omega)
  have e : mulM a p (x % (ordM a p P : Int)).toNat P = mulZ a p x P := by
    rw [← mulz_nat, G.mul_eq c hP, show (((x % (ordM a p P : Int)).toNat : Nat) : Int) = x % (ordM a p P : Int) by omega]
    have := dvd_mod (ordM a p P : Int) x
    rw [← Int.neg_sub]
    exact Int.dvd_neg.mpr this
  rw [e, show (((x % (ordM a p P : Int)).toNat : Nat) : Int) = x % (ordM a p P : Int) by omega] at st
  have hmod : modD (.int x) (.int (ordM a p P)) = some (.int (x % (ordM a p P : Int))) := o_mod (by omega)
  simp [F_times_eq G c hx hP, F_order_eq G c hP, st, hmod]
end Pf

-- part Lm25
set_option maxHeartbeats 2000000
namespace Pf
open PySem Cc L2
/-! ### form_of -/
theorem Gs.card {p a b m n : Int} {ts : List (List Int)} {h : Int → Int → List Int} (S : Gs p a b m n ts h) : (ts.length : Int) = m * n := by
  have m0 := S.m0; have n0 := S.n0
  have hl : ((rng m).flatMap fun i => (rng n).map fun j => h i j).length = ts.length := by
    refine nodup_same_len (nodup_prod (rng_nodup n) (rng_nodup m) fun i hi j hj k hk l hl e => ?_) S.nd fun P => ?_
    · obtain ⟨h1, h2⟩ := (S.eq ..).mp e
      exact ⟨small_eq (mem_rng.mp hi) (mem_rng.mp hk) h1, small_eq (mem_rng.mp hj) (mem_rng.mp hl) h2⟩
    · constructor
      · intro q
        obtain ⟨i, _, q⟩ := List.mem_flatMap.mp q
        obtain ⟨j, _, rfl⟩ := List.mem_map.mp q
        exact S.pt i j
      · intro q
        obtain ⟨i, j, rfl⟩ := S.sur P q
        refine List.mem_flatMap.mpr ⟨i % m, mem_rng.mpr (md i m m0), List.mem_map.mpr ⟨j % n, mem_rng.mpr (md j n n0), ?_⟩⟩
        refine (S.eq ..).mpr ⟨?_, ?_⟩
        · rw [Int.dvd_iff_emod_eq_zero, ← Int.emod_eq_emod_iff_emod_sub_eq_zero, Int.emod_emod]
        · rw [Int.dvd_iff_emod_eq_zero, ← Int.emod_eq_emod_iff_emod_sub_eq_zero, Int.emod_emod]
  have h2 : ∀ xs : List Int, (xs.flatMap fun i => (rng n).map fun j => h i j).length = xs.length * (rng n).length := by
    intro xs
    induction xs with
    | nil => simp
    | cons x xs ih => rw [List.flatMap_cons, List.length_append, List.length_map, ih, List.length_cons, Nat.add_mul]; omega
  have h3 : ∀ k : Int, 0 < k → ((rng k).length : Int) = k := by
    intro k hk
    simp [rng]; omega
  rw [← hl, h2, Int.natCast_mul, h3 m m0, h3 n n0]
theorem dedup_len_le (ts : List (List Int)) : (dedup ts).length ≤ ts.length := by
  induction ts with
  | nil => exact Nat.le_refl _
  | cons t ts ih =>
    unfold dedup
    split
    · exact Nat.le_succ_of_le ih
    · exact Nat.succ_le_succ ih
theorem dedup_len {ts : List (List Int)} (h : (dedup ts).length = ts.length) : ts.Nodup := by
  induction ts with
  | nil => exact List.nodup_nil
  | cons t ts ih =>
    unfold dedup at h
    split at h
    · have := dedup_len_le ts
      rw [List.length_cons] at h
      omega
    · next q => exact List.nodup_cons.mpr ⟨q, ih (Nat.succ.inj h)⟩
theorem made_len {a p : Int} {P Q : List Int} : (madeM a p P Q).length = ordM a p P * ordM a p Q := by
  rw [made_as, List.length_flatMap]
  have : ∀ xs : List Nat, (xs.map fun i => ((List.range (ordM a p Q)).map fun j => plusM a p (mulM a p (i + 1) P) (mulM a p (j + 1) Q)).length).sum = xs.length * ordM a p Q := by
    intro xs
    induction xs with
    | nil => simp
    | cons x xs ih => rw [List.map_cons, List.sum_cons, ih, List.length_cons, Nat.add_mul]; simp; omega
  rw [this, List.length_range]
@[simp] theorem r_mkTup4 {ρ : Dn} {a b c d : EF} : mkTup (aCons a (aCons b (aCons c (aCons d aNil)))) ρ = (a ρ).bind fun x => (b ρ).bind fun y => (c ρ).bind fun z => (d ρ).bind fun v => some (.tuple [x, y, z, v]) := by
  simp only [mkTup, r_aCons, r_aNil]; cases a ρ <;> cases b ρ <;> cases c ρ <;> cases d ρ <;> rfl
/-- what form_of hands back -/
structure FormIs (p a b m n : Int) (ts : List (List Int)) (P Q : List Int) : Prop where
  mP : P ∈ ts
  mQ : Q ∈ ts
  oP : (ordM a p P : Int) = m
  oQ : (ordM a p Q : Int) = n
  full : (madeM a p P Q).Nodup
theorem F_form_of_eq {p a b m n : Int} {ts : List (List Int)} {h : Int → Int → List Int} (S : Gs p a b m n ts h) {M N : Int} {g : Int → Int → List Int} (G : Gr p a b M N g) (c : Cv p a b) : ∃ P Q, FormIs p a b m n ts P Q ∧ F_form_of [.tuple [.int a, .int b], .int p, .tuple (ts.map tupI)] = some (.tuple [.int m, .int n, tupI P, tupI Q]) := by
  have m0 := S.m0; have n0 := S.n0
  have card := S.card
  have l63 : ts.length < 64 := Nat.lt_of_le_of_lt (nodup_sub_len S.nd fun t ht => S.sub t ht) (pts_63 c)
  -- the orders
  have ords : lcF (iSeq (getV 2)) [9] (gSet 9) tYesD E_form_of_1 [vP a b, vI p, .val (.tuple (ts.map tupI)), .unk, .unk, .unk, .unk, .unk, .unk, .unk] = some ((ts.map fun t => (ordM a p t : Int)).map .int) := by
    rw [r_lcF, r_iSeq, r_getV, nthS, nthS, nth0, r_slV, r_itemsT, Option.bind_some, if_pos (by rw [List.length_map]; omega), lcL_map (f := tupI) (fun t => .int (ordM a p t)) ts fun t ht => ⟨_, rfl, rfl, ?_⟩, List.map_map]
    · rfl
    · simp [E_form_of_1, wipeD, F_order_eq G c (S.sub t ht)]
  have mx : Cc.maxD [.list ((ts.map fun t => (ordM a p t : Int)).map .int)] = some (.int n) := by
    have hne : ts ≠ [] := fun z => by have := S.pt 0 0; rw [z] at this; cases this
    obtain ⟨t, us, rfl⟩ := List.exists_cons_of_ne_nil hne
    show ((intsD (((t :: us).map fun t => (ordM a p t : Int)).map .int)).bind fun ns => (maxI ns).map PyData.int) = _
    rw [intsD_map]
    show some (PyData.int ((us.map fun t => (ordM a p t : Int)).foldl max (ordM a p t : Int))) = _
    obtain ⟨q1, q2⟩ := foldl_max (us.map fun t => (ordM a p t : Int)) (ordM a p t : Int)
    have q3 := q2 n (by
      have : (ordM a p (h 0 1) : Int) ∈ (t :: us).map fun t => (ordM a p t : Int) := List.mem_map.mpr ⟨_, S.pt 0 1, rfl⟩
      rw [S.ord_n G c] at this
      exact this)
    have q4 : (us.map fun t => (ordM a p t : Int)).foldl max (ordM a p t : Int) ∈ (t :: us).map fun t => (ordM a p t : Int) := q1
    obtain ⟨w, hw, e⟩ := List.mem_map.mp q4
    have := Int.le_of_dvd n0 (S.ord_le G c hw)
    rw [e] at this
    rw [Int.le_antisymm this q3]
  -- the first of the greatest order
  have fst : ∃ (k : Nat) (Q : List Int), ts[k]? = some Q ∧ (ordM a p Q : Int) = n ∧ indexD (.list ((ts.map fun t => (ordM a p t : Int)).map .int)) [.int n] = some (.int k) := by
    have hex : ∃ k, (ts.map fun t => (ordM a p t : Int)).findIdx? (fun z => decide (z = n)) = some k := by
      cases e : (ts.map fun t => (ordM a p t : Int)).findIdx? (fun z => decide (z = n)) with
      | some k => exact ⟨k, rfl⟩
      | none =>
        rw [List.findIdx?_eq_none_iff] at e
        have := e n (by
          have : (ordM a p (h 0 1) : Int) ∈ ts.map fun t => (ordM a p t : Int) := List.mem_map.mpr ⟨_, S.pt 0 1, rfl⟩
          rwa [S.ord_n G c] at this)
        simp at this
    obtain ⟨k, hk⟩ := hex
    obtain ⟨hl, h1, _⟩ := List.findIdx?_eq_some_iff_getElem.mp hk
    rw [List.length_map] at hl
    refine ⟨k, ts[k], List.getElem?_eq_getElem hl, by simpa using h1, ?_⟩
    unfold indexD
    simp only []
    rw [sh_listI, sh_int, Bool.and_self, if_pos rfl, List.findIdx?_map]
    have : ((fun z => PyData.eqv z (.int n)) ∘ PyData.int) = fun z : Int => decide (z = n) := by
      funext z
      show PyData.eqv (.int z) (.int n) = _
      rw [PyData.eqv, ibeq]
    rw [this, hk]
    rfl
  obtain ⟨k, Q, hk, oQ, hidx⟩ := fst
  have mQ : Q ∈ ts := List.mem_of_getElem? hk
  obtain ⟨s, t, u, v, eQ, nt, oP, ind⟩ := S.compl G c (by omega) mQ oQ
  have full : (madeM a p (h s t) Q).Nodup := by
    rw [eQ] at oQ ⊢
    exact S.made_nd oP oQ ind
  -- the loop
  let q : List Int → Bool := fun P => decide ((ordM a p P : Int) = m) && decide (((dedup (madeM a p P Q)).length : Int) = ts.length)
  have hq : q (h s t) = true := by
    show (decide _ && decide _) = true
    rw [Bool.and_eq_true, decide_eq_true_eq, decide_eq_true_eq, dedup_nodup full, made_len, card, Int.natCast_mul, oP, oQ]
    exact ⟨rfl, rfl⟩
  have madeL : ∀ P ∈ ts, (ordM a p P : Int) = m → (madeM a p P Q).length < 64 := by
    intro P hP oP
    have e : ((madeM a p P Q).length : Int) = ts.length := by rw [made_len, Int.natCast_mul, oP, oQ, card]
    omega
  let f : List Int → Dt := fun t => .tuple [tupI t, .int (ordM a p t)]
  have zipE : ∀ us : List (List Int), List.zipWith (fun x y => PyData.tuple [x, y]) (us.map tupI) ((us.map fun t => (ordM a p t : Int)).map .int) = us.map f := by
    intro us
    induction us with
    | nil => rfl
    | cons x xs ih => rw [List.map_cons, List.map_cons, List.map_cons, List.zipWith_cons_cons, ih]; rfl
  have loop := forL_find (f := f) (g := gTupD [7, 8]) (B := L_form_of_1) q (fun P => .tuple [.int m, .int n, tupI P, tupI Q]) (fun ρ => ∃ s7 s8, ρ = [vP a b, vI p, .val (.tuple (ts.map tupI)), .val (.list ((ts.map fun t => (ordM a p t : Int)).map .int)), vI n, .val (tupI Q), vI m, s7, s8, .unk]) ts (ρ := [vP a b, vI p, .val (.tuple (ts.map tupI)), .val (.list ((ts.map fun t => (ordM a p t : Int)).map .int)), vI n, .val (tupI Q), vI m, .unk, .unk, .unk]) ⟨_, _, rfl⟩
    (by
      rintro P _ hP ⟨s7, s8, rfl⟩
      refine ⟨[vP a b, vI p, .val (.tuple (ts.map tupI)), .val (.list ((ts.map fun t => (ordM a p t : Int)).map .int)), vI n, .val (tupI Q), vI m, .val (tupI P), vI (ordM a p P), .unk], rfl, ?_⟩
      by_cases h1 : (ordM a p P : Int) = m
      · have ls : lenSetD (.list ((madeM a p P Q).map tupI)) = some (.int (dedup (madeM a p P Q)).length) := by
          unfold lenSetD
          simp only [tupsD_map, Option.bind_some, if_pos (madeL P hP h1)]
        by_cases h2 : ((dedup (madeM a p P Q)).length : Int) = ts.length
        · exact .inl ⟨by show (decide _ && decide _) = true; simp only [h1, h2, decide_true, Bool.and_self], by simp [L_form_of_1, h1, F_made_eq G c (S.sub P hP) (S.sub Q mQ), ls, h2]⟩
        · exact .inr ⟨by show (decide _ && decide _) = false; simp only [h2, decide_false, Bool.and_false], [vP a b, vI p, .val (.tuple (ts.map tupI)), .val (.list ((ts.map fun t => (ordM a p t : Int)).map .int)), vI n, .val (tupI Q), vI m, .val (tupI P), vI (ordM a p P), .unk], by simp [L_form_of_1, h1, F_made_eq G c (S.sub P hP) (S.sub Q mQ), ls, h2], _, _, rfl⟩
      · exact .inr ⟨by show (decide _ && decide _) = false; simp only [h1, decide_false, Bool.false_and], [vP a b, vI p, .val (.tuple (ts.map tupI)), .val (.list ((ts.map fun t => (ordM a p t : Int)).map .int)), vI n, .val (tupI Q), vI m, .val (tupI P), vI (ordM a p P), .unk], by simp [L_form_of_1, h1], _, _, rfl⟩)
  have found : ∃ P, ts.find? q = some P := by
    cases e : ts.find? q with
    | some P => exact ⟨P, rfl⟩
    | none => exact absurd hq (List.find?_eq_none.mp e _ (S.pt s t))
  obtain ⟨P, hf⟩ := found
  have qP : q P = true := List.find?_some hf
  have mP : P ∈ ts := List.mem_of_find?_eq_some hf
  have qP : (decide ((ordM a p P : Int) = m) && decide (((dedup (madeM a p P Q)).length : Int) = ts.length)) = true := qP
  rw [Bool.and_eq_true, decide_eq_true_eq, decide_eq_true_eq] at qP
  have ndP : (madeM a p P Q).Nodup := by
    refine dedup_len ?_
    have e : ((madeM a p P Q).length : Int) = ts.length := by rw [made_len, Int.natCast_mul, qP.1, oQ, card]
    have := qP.2
    omega
  refine ⟨P, Q, ⟨mP, mQ, qP.1, oQ, ndP⟩, run_rt rfl ?_⟩
  show B_form_of [vP a b, vI p, .val (.tuple (ts.map tupI)), .unk, .unk, .unk, .unk, .unk, .unk, .unk] = _
  unfold B_form_of
  rw [seq_set (by rw [r_lstF, ords]; rfl)]
  simp only [List.set_cons_succ, List.set_cons_zero]
  rw [seq_set (d := .int n) (by rw [r_callF, r_aCons, r_getV, nthS, nthS, nthS, nth0, r_slV, Option.bind_some, r_aNil, Option.map_some, Option.bind_some, mx])]
  simp only [List.set_cons_succ, List.set_cons_zero]
  have atk : atI (ts.map tupI) (k : Int) = some (tupI Q) := by
    have hl := (List.getElem?_eq_some_iff.mp hk).1
    simp only [atI, ixN]
    rw [if_pos (by omega), if_pos (by simp; omega)]
    simp [hk]
  rw [seq_set (d := tupI Q) (by simp [-List.map_map, hidx, atk])]
  simp only [List.set_cons_succ, List.set_cons_zero]
  have small : (ts.length : Int) / n = m := by rw [card, Int.mul_ediv_cancel _ (by omega)]
  have nb : n < 1073741824 := by
    have : n * 1 ≤ n * m := Int.mul_le_mul_of_nonneg_left (by omega) (by omega)
    rw [Int.mul_comm n m, ← card] at this
    omega
  have fd : fdivD (.int ts.length) (.int n) = some (.int m) := by rw [o_fdiv ⟨n0, nb⟩, small]
  rw [seq_set (d := .int m) (by simp [fd])]
  simp only [List.set_cons_succ, List.set_cons_zero]
  rcases loop with ⟨P', e1', h2⟩ | ⟨e1', _⟩
  · rw [hf] at e1'
    cases e1'
    refine seq_rt ?_
    rw [r_sFor, r_iF, r_aCons, r_getV, nthS, nthS, nth0, r_slV, Option.bind_some, r_aCons, r_getV, nthS, nthS, nthS, nth0, r_slV, Option.bind_some, r_aNil, Option.map_some, Option.map_some, Option.bind_some]
    have : zipD [.tuple (ts.map tupI), .list ((ts.map fun t => (ordM a p t : Int)).map .int)] = some (ts.map f) := by
      show some (List.zipWith (fun x y => PyData.tuple [x, y]) _ _) = _
      rw [zipE]
    rw [this, Option.bind_some]
    exact h2
  · rw [hf] at e1'; cases e1'
end Pf

-- part M30
set_option maxHeartbeats 1000000
namespace Pf
open PySem Cc L2
theorem F_form_eq {p a b m n : Int} {g : Int → Int → List Int} (G : Gr p a b m n g) (c : Cv p a b) : ∃ P Q, FormIs p a b m n (ptsM a b p) P Q ∧ F_form [.tuple [.int a, .int b], .int p] = some (.tuple [.int m, .int n, tupI P, tupI Q]) := by
  obtain ⟨P, Q, f, e⟩ := F_form_of_eq G.gs G c
  refine ⟨P, Q, f, run_rt rfl ?_⟩
  show B_form [vP a b, vI p] = _
  unfold B_form
  rw [r_sRet, r_callF, r_aCons, r_getV, nth0, r_slV, Option.bind_some, r_aCons, r_getV, nthS, nth0, r_slV, Option.bind_some, r_aCons, r_callF, r_aCons, r_getV, nth0, r_slV, Option.bind_some, r_aCons, r_getV, nthS, nth0, r_slV, Option.bind_some, r_aNil, Option.map_some, Option.map_some, Option.bind_some, F_points_eq c, Option.bind_some, Option.map_some, Option.map_some, Option.map_some, Option.bind_some, e]
  rfl
theorem lenSet_of {ts : List (List Int)} (h : ts.length < 64) : lenSetD (.list (ts.map tupI)) = some (.int (dedup ts).length) := by
  unfold lenSetD
  simp only [tupsD_map, Option.bind_some, if_pos h]
theorem shows_form_yes {p a b m n : Int} {g : Int → Int → List Int} (G : Gr p a b m n g) (c : Cv p a b) {P Q : List Int} (f : FormIs p a b m n (ptsM a b p) P Q) : F_shows_form [.tuple [.int a, .int b], .int p, .tuple [.int m, .int n, tupI P, tupI Q]] = some (.bool true) := by
  have m0 := G.m0; have n0 := G.n0; have card := G.card
  have l63 := pts_63 c
  have n63 := G.n63 c
  have mm := Int.emod_eq_zero_of_dvd G.mn
  have ml : ((madeM a p P Q).length : Int) = m * n := by rw [made_len, Int.natCast_mul, f.oP, f.oQ]
  have hm1 : mulD (.int m) (.int n) = some (.int (m * n)) := o_mul (.inr (by omega))
  have hmod : modD (.int n) (.int m) = some (.int 0) := by rw [o_mod m0, mm]
  have ls := lenSet_of (ts := madeM a p P Q) (by omega)
  rw [dedup_nodup f.full, ml] at ls
  refine run_rt rfl ?_
  show B_shows_form [vP a b, vI p, .val (.tuple [.int m, .int n, tupI P, tupI Q])] = _
  unfold B_shows_form
  rw [seq_if_no (by simp)]
  rw [seq_if_no (by
    have h1 : ¬ m < 1 := by omega
    have h2 : ¬ n < 1 := by omega
    simp [h1, h2, hmod, hm1, F_count_eq c, card])]
  rw [seq_if_no (by simp [is_point_pt c f.mP, is_point_pt c f.mQ])]
  rw [seq_if_no (by simp [F_order_eq G c f.mP, F_order_eq G c f.mQ, f.oP, f.oQ])]
  simp [F_made_eq G c f.mP f.mQ, ls, hm1]
def oftMade (a p : Int) (P Q : List Int) : List (List Int) := (oftenM a p P).flatMap fun A => (oftenM a p Q).map fun B => plusM a p A B
theorem mem_oftMade {p a b m n : Int} {g : Int → Int → List Int} (G : Gr p a b m n g) (c : Cv p a b) {P Q : List Int} (hP : P ∈ ptsM a b p) (hQ : Q ∈ ptsM a b p) (t : List Int) : t ∈ oftMade a p P Q ↔ t ∈ madeM a p P Q := by
  unfold oftMade madeM
  rw [List.mem_flatMap, List.mem_flatMap]
  constructor
  · rintro ⟨A, hA, h⟩
    obtain ⟨B, hB, e⟩ := List.mem_map.mp h
    exact ⟨A, (G.mem_rounds c hP).mpr hA, List.mem_map.mpr ⟨B, (G.mem_rounds c hQ).mpr hB, e⟩⟩
  · rintro ⟨A, hA, h⟩
    obtain ⟨B, hB, e⟩ := List.mem_map.mp h
    exact ⟨A, (G.mem_rounds c hP).mp hA, List.mem_map.mpr ⟨B, (G.mem_rounds c hQ).mp hB, e⟩⟩
theorem oftMade_len {a p : Int} {P Q : List Int} : (oftMade a p P Q).length = ordM a p P * ordM a p Q := by
  unfold oftMade
  have : ∀ xs : List (List Int), (xs.flatMap fun A => (oftenM a p Q).map fun B => plusM a p A B).length = xs.length * ordM a p Q := by
    intro xs
    induction xs with
    | nil => simp
    | cons x xs ih => rw [List.flatMap_cons, List.length_append, List.length_map, often_len, ih, List.length_cons, Nat.add_mul]; omega
  rw [this, often_len]
theorem law_k30_true (ns : List Int) (hl : ns.length ≤ 63) : F_law_k30 ns [] = some (.bool true) := by
  obtain ⟨p, hp, h1⟩ := size_of ns
  obtain ⟨a, b, c, h2⟩ := curve_of ns (k := 1) (by decide) (by decide) hp
  obtain ⟨m, n, g, G⟩ := group_of c
  have p0 := c.p0; have p1 := c.p1
  have hlen := pts_len (a := a) (b := b) (p := p) (by omega) p1
  have l63 := pts_63 c
  have m0 := G.m0; have n0 := G.n0; have card := G.card
  have n63 := G.n63 c
  obtain ⟨P, Q, f, hform⟩ := F_form_eq G c
  have shows := shows_form_yes G c f
  refine runS_rt rfl ?_
  show B_law_k30 [.scr ns, .unk, .unk, .unk, .unk, .unk, .unk, .unk, .unk, .unk, .unk, .unk, .unk, .unk, .unk] = _
  unfold B_law_k30
  rw [seq_set (h1 _)]
  simp only [List.set_cons_succ, List.set_cons_zero]
  rw [seq_set (h2 _)]
  simp only [List.set_cons_succ, List.set_cons_zero]
  rw [seq_set (d := .list ((ptsM a b p).map tupI)) (by simp [F_law_points_eq c])]
  simp only [List.set_cons_succ, List.set_cons_zero]
  rw [seq_set (d := .tuple [.int m, .int n, tupI P, tupI Q]) (by simp [hform])]
  simp only [List.set_cons_succ, List.set_cons_zero]
  rw [seq_if_no (by simp [shows])]
  rw [seq_nx (ρ' := [.scr ns, vI p, vP a b, .val (.list ((ptsM a b p).map tupI)), .val (.tuple [.int m, .int n, tupI P, tupI Q]), .unk, .unk, .unk, .unk, vI m, vI n, .val (tupI P), .val (tupI Q), .unk, .unk]) (by simp)]
  rw [seq_if_no (by simp [f.mP, f.mQ])]
  rw [seq_set (d := .list ((oftenM a p P).map tupI)) (by simp [F_often_eq G c f.mP])]
  simp only [List.set_cons_succ, List.set_cons_zero]
  rw [seq_set (d := .list ((oftenM a p Q).map tupI)) (by simp [F_often_eq G c f.mQ])]
  simp only [List.set_cons_succ, List.set_cons_zero]
  have hm1 : modD (.int n) (.int m) = some (.int 0) := by rw [o_mod m0, Int.emod_eq_zero_of_dvd G.mn]
  have hm2 : modD (.int (p - 1)) (.int m) = some (.int 0) := by rw [o_mod m0, Int.emod_eq_zero_of_dvd G.mp]
  rw [seq_if_no (by simp [often_len, f.oP, f.oQ, hm1, hm2])]
  rw [seq_set (d := .list (([] : List (List Int)).map tupI)) (by simp)]
  simp only [List.set_cons_succ, List.set_cons_zero]
  have oQ64 := (G.ord c f.mQ).2.1
  have oP64 := (G.ord c f.mP).2.1
  have inner : ∀ (A : List Int) (acc : List (List Int)) (s13 s14 : Sl), A ∈ ptsM a b p → acc.length ≤ 10000 →
      L_law_k30_1 [.scr ns, vI p, vP a b, .val (.list ((ptsM a b p).map tupI)), .val (.tuple [.int m, .int n, tupI P, tupI Q]), .val (.list ((oftenM a p P).map tupI)), .val (.list ((oftenM a p Q).map tupI)), .val (.list (acc.map tupI)), .val (tupI A), vI m, vI n, .val (tupI P), .val (tupI Q), s13, s14] =
      some (.nx [.scr ns, vI p, vP a b, .val (.list ((ptsM a b p).map tupI)), .val (.tuple [.int m, .int n, tupI P, tupI Q]), .val (.list ((oftenM a p P).map tupI)), .val (.list ((oftenM a p Q).map tupI)), .val (.list ((acc ++ (oftenM a p Q).map fun B => plusM a p A B).map tupI)), .val (tupI A), vI m, vI n, .val (tupI P), .val (tupI Q), s13, s14]) := by
    intro A acc s13 s14 hA hacc
    have e : lcF (iSeq (getV 6)) [14] (gSet 14) tYesD E_law_k30_2 [.scr ns, vI p, vP a b, .val (.list ((ptsM a b p).map tupI)), .val (.tuple [.int m, .int n, tupI P, tupI Q]), .val (.list ((oftenM a p P).map tupI)), .val (.list ((oftenM a p Q).map tupI)), .val (.list (acc.map tupI)), .val (tupI A), vI m, vI n, .val (tupI P), .val (tupI Q), s13, s14] = some (((oftenM a p Q).map fun B => plusM a p A B).map tupI) := by
      have it : iSeq (getV 6) [.scr ns, vI p, vP a b, .val (.list ((ptsM a b p).map tupI)), .val (.tuple [.int m, .int n, tupI P, tupI Q]), .val (.list ((oftenM a p P).map tupI)), .val (.list ((oftenM a p Q).map tupI)), .val (.list (acc.map tupI)), .val (tupI A), vI m, vI n, .val (tupI P), .val (tupI Q), s13, s14] = some ((oftenM a p Q).map tupI) := rfl
      rw [r_lcF, it, Option.bind_some, if_pos (by rw [List.length_map, often_len]; omega), lcL_map (f := tupI) (fun B => tupI (plusM a p A B)) (oftenM a p Q) fun B hB => ⟨_, rfl, rfl, ?_⟩, List.map_map]
      · rfl
      · obtain ⟨k, _, eB⟩ := mem_often.mp hB
        have hB2 : B ∈ ptsM a b p := eB ▸ G.mul_pts f.mQ k
        simp [E_law_k30_2, wipeD, F_law_plus_eq c hA hB2]
    have ad : addD (.list (acc.map tupI)) (.list (((oftenM a p Q).map fun B => plusM a p A B).map tupI)) = some (.list ((acc ++ (oftenM a p Q).map fun B => plusM a p A B).map tupI)) := by
      rw [List.map_append]
      exact if_pos (by rw [List.length_map, List.length_map, List.length_map, often_len]; simp only [Lim]; omega)
    unfold L_law_k30_1
    rw [r_sSet, r_e2, r_lstF, e]
    simp only [r_getV, nthS, nth0, r_slV, Option.bind_some, Option.map_some, ad]
    rfl
  have loop := forL_ind (f := tupI) (g := gSet 8) (B := L_law_k30_1) (oftenM a p P)
    (fun i ρ => ∃ s8, ρ = [.scr ns, vI p, vP a b, .val (.list ((ptsM a b p).map tupI)), .val (.tuple [.int m, .int n, tupI P, tupI Q]), .val (.list ((oftenM a p P).map tupI)), .val (.list ((oftenM a p Q).map tupI)), .val (.list ((((oftenM a p P).take i).flatMap fun A => (oftenM a p Q).map fun B => plusM a p A B).map tupI)), s8, vI m, vI n, .val (tupI P), .val (tupI Q), .unk, .unk])
    (ρ := [.scr ns, vI p, vP a b, .val (.list ((ptsM a b p).map tupI)), .val (.tuple [.int m, .int n, tupI P, tupI Q]), .val (.list ((oftenM a p P).map tupI)), .val (.list ((oftenM a p Q).map tupI)), .val (.list (([] : List (List Int)).map tupI)), .unk, vI m, vI n, .val (tupI P), .val (tupI Q), .unk, .unk]) ⟨.unk, by simp⟩
    (by
      rintro i A _ hA ⟨s8, rfl⟩
      obtain ⟨k, _, eA⟩ := mem_often.mp (List.mem_of_getElem? hA)
      have hA2 : A ∈ ptsM a b p := eA ▸ G.mul_pts f.mP k
      have hacc : (((oftenM a p P).take i).flatMap fun A => (oftenM a p Q).map fun B => plusM a p A B).length ≤ 10000 := by
        have h2 : ∀ xs : List (List Int), (xs.flatMap fun A => (oftenM a p Q).map fun B => plusM a p A B).length = xs.length * ordM a p Q := by
          intro xs
          induction xs with
          | nil => simp
          | cons x xs ih => rw [List.flatMap_cons, List.length_append, List.length_map, often_len, ih, List.length_cons, Nat.add_mul]; omega
        rw [h2]
        have : ((oftenM a p P).take i).length ≤ 64 := by rw [List.length_take, often_len]; omega
        exact Nat.le_trans (Nat.mul_le_mul this (Nat.le_of_lt oQ64)) (by decide)
      refine ⟨_, _, rfl, inner A _ .unk .unk hA2 hacc, .val (tupI A), ?_⟩
      rw [List.take_add_one, hA]
      simp)
  obtain ⟨_, h4, s8, rfl⟩ := loop
  rw [seq_nx (by rw [r_sFor]; exact h4), List.take_length]
  have om : ((oftMade a p P Q).length : Int) = (ptsM a b p).length := by rw [oftMade_len, Int.natCast_mul, f.oP, f.oQ, card]
  have od : ((dedup (oftMade a p P Q)).length : Int) = (ptsM a b p).length := by
    have : (dedup (oftMade a p P Q)).length = (madeM a p P Q).length := nodup_same_len nodup_dedup f.full fun t => by rw [mem_dedup, mem_oftMade G c f.mP f.mQ]
    rw [this, made_len, Int.natCast_mul, f.oP, f.oQ, card]
  have ls := lenSet_of (ts := oftMade a p P Q) (by omega)
  rw [od] at ls
  rw [show ((oftenM a p P).flatMap fun A => (oftenM a p Q).map fun B => plusM a p A B) = oftMade a p P Q from rfl]
  rw [seq_if_no (by simp [om, ls])]
  rw [r_sRet, r_e2, lc_none (ts := ptsM a b p) (by simp) hlen (fun t ht => by
    have e : mulZ a p n t = [] := (G.ord_iff c ht n).mpr (G.ord_n c ht)
    have ft := F_times_eq G c (k := n) (big64 (by omega)) ht
    rw [e, ← tupI0] at ft
    have z := o_neT0 (s := [])
    rw [show tupI [] = PyData.tuple [] from rfl] at z
    simp [T_law_k30_1, wipeD, ft, z])]
  have : eqD (.list []) (.list []) = some (.bool true) := by
    unfold eqD; rw [sh_nil, Bool.and_self, if_pos rfl]; simp [PyData.eqv, PyData.eqvAll]
  simp [this]
end Pf

-- part Lm26
set_option maxHeartbeats 1000000
namespace Pf
open PySem Cc L2
/-! ### things of any kind -/
inductive Tm : Nat → Dt → Prop
  | non {k} : Tm k .none
  | bool {k} (b) : Tm k (.bool b)
  | int {k} {i : Int} (h : i.natAbs < 2 ^ 200) : Tm k (.int i)
  | str {k} {x : Str} (h : PyData.strOk x = true) : Tm k (.str x)
  | list {k ds} (h : ∀ d ∈ ds, Tm k d) (hl : ds.length ≤ 1000 := by first | (simp; done) | decide) : Tm (k + 1) (.list ds)
  | tuple {k ds} (h : ∀ d ∈ ds, Tm k d) (hl : ds.length ≤ 1000 := by first | (simp; done) | decide) : Tm (k + 1) (.tuple ds)
theorem Tm.succ {k : Nat} {d : Dt} (h : Tm k d) : Tm (k + 1) d := by
  induction h with
  | non => exact .non
  | bool b => exact .bool b
  | int h => exact .int h
  | str h => exact .str h
  | list _ hl ih => exact .list ih hl
  | tuple _ hl ih => exact .tuple ih hl
theorem Tm.le {j k : Nat} {d : Dt} (h : Tm j d) (e : j ≤ k) : Tm k d := by
  obtain ⟨i, rfl⟩ := Nat.le.dest e
  induction i with
  | zero => exact h
  | succ i ih => exact (ih (by omega)).succ
theorem layAll_of : ∀ {ds : List Dt}, (∀ d ∈ ds, d.canLay0 = true) → PyData.canLayAll0 ds = true
  | [], _ => by simp [PyData.canLayAll0]
  | d :: ds, h => by
    rw [PyData.canLayAll0, h d List.mem_cons_self, layAll_of fun e he => h e (List.mem_cons_of_mem _ he)]; rfl
theorem depAll_of {k : Nat} : ∀ {ds : List Dt}, (∀ d ∈ ds, d.depth ≤ k) → PyData.depthAll ds ≤ k
  | [], _ => by simp [PyData.depthAll]
  | d :: ds, h => by
    have h1 := h d List.mem_cons_self
    have h2 := depAll_of fun e he => h e (List.mem_cons_of_mem _ he)
    simp [PyData.depthAll]; omega
theorem Tm.lay {k : Nat} {d : Dt} (h : Tm k d) : d.canLay0 = true ∧ d.depth ≤ k := by
  induction h with
  | non => simp [PyData.canLay0, PyData.depth]
  | bool b => simp [PyData.canLay0, PyData.depth]
  | int h => simp [PyData.canLay0, PyData.depth]
  | str h => simp [PyData.canLay0, PyData.depth, h]
  | list _ _ ih =>
    have h1 := layAll_of fun d hd => (ih d hd).1
    have h2 := depAll_of fun d hd => (ih d hd).2
    simp [PyData.canLay0, PyData.depth, h1]; omega
  | tuple _ _ ih =>
    have h1 := layAll_of fun d hd => (ih d hd).1
    have h2 := depAll_of fun d hd => (ih d hd).2
    simp [PyData.canLay0, PyData.depth, h1]; omega
theorem Tm.sh {k : Nat} {d : Dt} (h : Tm k d) (hk : k ≤ 64) : SeqAt.shaped d = true := sh_of h.lay.1 (Nat.le_trans h.lay.2 hk)
theorem Tm.mem {k : Nat} {ds : List Dt} (h : Tm (k + 1) (.tuple ds)) {d : Dt} (hd : d ∈ ds) : Tm k d := by
  cases h with
  | tuple h => exact h d hd
theorem tm_tupI {k : Nat} {t : List Int} (h : ∀ i ∈ t, i.natAbs < 2 ^ 200) (hl : t.length ≤ 1000) : Tm (k + 1) (tupI t) := .tuple (fun d hd => by
  obtain ⟨i, hi, rfl⟩ := List.mem_map.mp hd
  exact .int (h i hi)) (by rw [List.length_map]; exact hl)
theorem Tm.len {k : Nat} {ds : List Dt} (h : Tm k (.tuple ds)) : ds.length ≤ 1000 := by
  cases h with
  | tuple _ hl => exact hl
theorem b200 {i : Int} (h : i.natAbs < 18446744073709551616) : i.natAbs < 2 ^ 200 := Nat.lt_of_lt_of_le h (by decide +kernel)
/-! ### what kind it is -/
def tupB : Dt → Bool
  | .tuple _ => true
  | _ => false
def intB : Dt → Bool
  | .int _ => true
  | _ => false
def boolB : Dt → Bool
  | .bool _ => true
  | _ => false
def ibB : Dt → Bool
  | .int _ => true
  | .bool _ => true
  | _ => false
def numB (p : Int) : Dt → Bool
  | .int i => decide (0 ≤ i) && decide (i < p)
  | _ => false
section
variable {k : Nat} {d : Dt}
theorem isTuple_tm (h : Tm k d) : isTuple d = some (.bool (tupB d)) := by cases h <;> rfl
theorem isBool_tm (h : Tm k d) : isBool d = some (.bool (boolB d)) := by cases h <;> rfl
theorem isInt_tm (h : Tm k d) : isInt d = some (.bool (ibB d)) := by cases h <;> rfl
theorem is_whole_tm (h : Tm k d) : F_is_whole [d] = some (.bool (intB d)) := by
  refine run_rt rfl ?_
  show B_is_whole [.val d] = _
  cases h <;> rfl
theorem is_number_tm {p : Int} (h : Tm k d) : F_is_number [d, .int p] = some (.bool (numB p d)) := by
  refine run_rt rfl ?_
  show B_is_number [.val d, vI p] = _
  have hw := is_whole_tm h
  cases h with
  | int _ =>
    rename_i i _
    simp [B_is_number, numB]
    by_cases q : 0 ≤ i <;> simp [q]
  | _ => simp [B_is_number, hw, intB, numB]
def nilB : Dt → Bool
  | .tuple [] => true
  | _ => false
theorem nilB_iff {d : Dt} : nilB d = true ↔ d = .tuple [] := by
  unfold nilB
  split
  · simp
  · next h => simpa using fun e => h e
theorem eqv_nil (d : Dt) : PyData.eqv d (.tuple []) = nilB d := by
  cases d with
  | tuple ds => cases ds <;> simp [PyData.eqv, PyData.eqvAll, nilB]
  | _ => simp [PyData.eqv, nilB]
theorem eq_nil_tm (h : Tm k d) (hk : k ≤ 64) : eqD d (.tuple []) = some (.bool (nilB d)) := by
  unfold eqD
  rw [h.sh hk, show SeqAt.shaped (.tuple []) = true from sh_tupI [], Bool.and_self, if_pos rfl, eqv_nil]
theorem all_lc {ds : List Dt} {i : Nat} {f : EF} {e : EF} {ρ : Dn} {v : Dt → Bool} (hf : itemsD (f ρ) = some ds) (hl : ds.length ≤ 1000) (he : ∀ d ∈ ds, e ((wipeD ρ [i]).set i (.val d)) = some (.bool (v d))) :
    callF allD (aCons (lstF (lcF (iSeq f) [i] (gSet i) tYesD e)) aNil) ρ = some (.bool (ds.all v)) := by
  have h1 : lcF (iSeq f) [i] (gSet i) tYesD e ρ = some ((ds.map v).map .bool) := by
    have := lcL_map (f := id) (g := gSet i) (t := tYesD) (e := e) (ρ := wipeD ρ [i]) (fun d => .bool (v d)) ds fun d hd => ⟨_, rfl, rfl, he d hd⟩
    rw [r_lcF, r_iSeq, hf, Option.bind_some, if_pos (by omega)]
    rw [List.map_id] at this
    rw [this, List.map_map]; rfl
  rw [r_callF, r_aCons, r_lstF, h1]
  simp [allD, boolsD_map, -List.map_map]
/-- a point, or none -/
def ptB (a b p : Int) : Dt → Bool
  | .tuple [] => true
  | .tuple [.int x, .int y] => (decide (0 ≤ x) && decide (x < p)) && ((decide (0 ≤ y) && decide (y < p)) && decide (y * y % p = hgt a b p x))
  | _ => false
theorem ptB_iff {a b p : Int} {d : Dt} : ptB a b p d = true ↔ ∃ t, t ∈ ptsM a b p ∧ d = tupI t := by
  constructor
  · intro h
    unfold ptB at h
    split at h
    · exact ⟨[], mem_pts.mpr (.inl rfl), rfl⟩
    · next x y =>
      simp only [Bool.and_eq_true, decide_eq_true_eq] at h
      exact ⟨[x, y], mem_pts.mpr (.inr ⟨x, y, rfl, h.1, h.2.1, h.2.2⟩), rfl⟩
    · cases h
  · rintro ⟨t, ht, rfl⟩
    rcases mem_pts.mp ht with rfl | ⟨x, y, rfl, hx, hy, h⟩
    · rfl
    · simp [ptB, tupI, hx, hy, h]
theorem is_point_tm {a b p : Int} (c : Cv p a b) (h : Tm k d) (hk : k ≤ 64) : F_is_point [d, .tuple [.int a, .int b], .int p] = some (.bool (ptB a b p d)) := by
  have p0 := c.p0; have p1 := c.p1; have a0 := c.a0; have a1 := c.a1
  refine run_rt rfl ?_
  show B_is_point [.val d, vP a b, vI p, .unk] = _
  unfold B_is_point
  by_cases e : d = .tuple []
  · subst e
    exact seq_if_yes (by simp) (by simp [ptB])
  have e2 : nilB d = false := by rw [← Bool.not_eq_true, nilB_iff]; exact e
  rw [seq_if_no (by simp [eq_nil_tm h hk, e2])]
  by_cases ht : ∃ ds, d = .tuple ds
  · obtain ⟨ds, rfl⟩ := ht
    by_cases hl : ds.length = 2
    · obtain ⟨x, y, rfl⟩ : ∃ x y, ds = [x, y] := by
        match ds, hl with
        | [x, y], _ => exact ⟨x, y, rfl⟩
      obtain ⟨k, rfl⟩ : ∃ j, k = j + 1 := by cases h; exact ⟨_, rfl⟩
      have hx := h.mem (d := x) (by simp)
      have hy := h.mem (d := y) (by simp)
      have al := all_lc (ds := [x, y]) (i := 3) (f := getV 0) (e := E_is_point_1) (ρ := [.val (.tuple [x, y]), vP a b, vI p, .unk]) (v := numB p) rfl (by simp) (by
        intro z hz
        have hz : Tm k z := by
          rcases List.mem_cons.mp hz with rfl | hz
          · exact hx
          · rcases List.mem_cons.mp hz with rfl | hz
            · exact hy
            · cases hz
        simp [E_is_point_1, wipeD, is_number_tm hz])
      cases hn : [x, y].all (numB p) with
      | false =>
        rw [hn] at al
        have : ptB a b p (.tuple [x, y]) = false := by
          simp only [List.all_cons, List.all_nil, Bool.and_true] at hn
          cases x <;> cases y <;> try rfl
          rename_i x y
          simp only [numB, Bool.and_eq_false_iff] at hn
          simp only [ptB]
          rcases hn with hn | hn
          · rcases hn with hn | hn <;> simp [hn]
          · rcases hn with hn | hn <;> simp [hn]
        rw [this]
        refine seq_if_yes ?_ (by simp)
        rw [r_tOr, r_tNt, r_tB, r_e1, r_getV, nth0, r_slV, Option.bind_some, isTuple_tup, r_tOr, r_tNt, r_tB, r_tB, al]
        simp
      | true =>
        rw [hn] at al
        simp only [List.all_cons, List.all_nil, Bool.and_true, Bool.and_eq_true] at hn
        obtain ⟨x, rfl⟩ : ∃ i, x = .int i := by
          cases x <;> first | exact ⟨_, rfl⟩ | (have := hn.1; cases this)
        obtain ⟨y, rfl⟩ : ∃ i, y = .int i := by
          cases y <;> first | exact ⟨_, rfl⟩ | (have := hn.2; cases this)
        simp only [numB, Bool.and_eq_true, decide_eq_true_eq] at hn
        obtain ⟨⟨hx0, hx1⟩, hy0, hy1⟩ := hn
        rw [seq_if_no (by
          rw [r_tOr, r_tNt, r_tB, r_e1, r_getV, nth0, r_slV, Option.bind_some, isTuple_tup, r_tOr, r_tNt, r_tB, r_tB, al]
          simp)]
        simp (disch := omega) [F_height_eq (a := a) (b := b) (p := p) (x := x) (by omega) (by omega) (by omega), ptB, hx0, hx1, hy0, hy1]
    · have : ptB a b p (.tuple ds) = false := by
        match ds, hl, e with
        | [], _, e => exact absurd rfl e
        | [x], _, _ => cases x <;> rfl
        | x :: y :: z :: r, _, _ => cases x <;> cases y <;> rfl
        | [_, _], hl, _ => exact absurd rfl hl
      rw [this]
      refine seq_if_yes ?_ (by simp)
      have hl2 : ¬ (ds.length : Int) = 2 := by omega
      simp [hl2]
  · have tf : tupB d = false := by cases d <;> first | rfl | exact absurd ⟨_, rfl⟩ ht
    have : ptB a b p d = false := by cases d <;> first | rfl | exact absurd ⟨_, rfl⟩ ht
    rw [this]
    exact seq_if_yes (by simp [isTuple_tm h, tf]) (by simp)
end
/-! ### the law's odd things -/
def oddL : List Dt := [.int (-1), .int 0, .int 1, .int 2, .bool true, .bool false, .none, .str (PySem.Str.ofString ""), .str (PySem.Str.ofString "far"), .tuple [], .list [], .tuple [.int 0], .tuple [.int 1, .int 2], .tuple [.bool true, .int 1], .list [.int 1, .int 2], .tuple [.str (PySem.Str.ofString "0"), .int 1], .tuple [.int 1, .int 2, .int 3], .int 31,
  .tuple [.int 0, .int 0], .tuple [.int 1, .bool false], .tuple [.tuple [], .tuple []], .int 4, .int 37, .int 9, .tuple [.int 31, .int 1], .tuple [.int (-1), .int 2], .int 1000000000000000000000000000000]
theorem odd_tm : ∀ d ∈ oddL, Tm 3 d := by
  have s1 : PyData.strOk (PySem.Str.ofString "") = true := by decide +kernel
  have s2 : PyData.strOk (PySem.Str.ofString "far") = true := by decide +kernel
  have s3 : PyData.strOk (PySem.Str.ofString "0") = true := by decide +kernel
  have i : ∀ {k : Nat} (i : Int), i.natAbs < 18446744073709551616 → Tm k (.int i) := fun i h => .int (b200 h)
  have nl : ∀ {k : Nat}, ∀ d ∈ ([] : List Dt), Tm k d := fun d hd => by cases hd
  have cs : ∀ {k : Nat} {x : Dt} {ds : List Dt}, Tm k x → (∀ d ∈ ds, Tm k d) → ∀ d ∈ x :: ds, Tm k d := by
    intro k x ds hx hds d hd
    rcases List.mem_cons.mp hd with rfl | hd
    · exact hx
    · exact hds d hd
  unfold oddL
  refine cs (i _ (by decide)) (cs (i _ (by decide)) (cs (i _ (by decide)) (cs (i _ (by decide)) (cs (.bool _) (cs (.bool _) (cs .non (cs (.str s1) (cs (.str s2) (cs (.tuple nl) (cs (.list nl) ?_))))))))))
  refine cs (.tuple (cs (i _ (by decide)) nl)) (cs (.tuple (cs (i _ (by decide)) (cs (i _ (by decide)) nl))) (cs (.tuple (cs (.bool _) (cs (i _ (by decide)) nl))) (cs (.list (cs (i _ (by decide)) (cs (i _ (by decide)) nl))) ?_)))
  refine cs (.tuple (cs (.str s3) (cs (i _ (by decide)) nl))) (cs (.tuple (cs (i _ (by decide)) (cs (i _ (by decide)) (cs (i _ (by decide)) nl)))) (cs (i _ (by decide)) ?_))
  refine cs (.tuple (cs (i _ (by decide)) (cs (i _ (by decide)) nl))) (cs (.tuple (cs (i _ (by decide)) (cs (.bool _) nl))) (cs (.tuple (cs (.tuple nl) (cs (.tuple nl) nl))) ?_))
  refine cs (i _ (by decide)) (cs (i _ (by decide)) (cs (i _ (by decide)) (cs (.tuple (cs (i _ (by decide)) (cs (i _ (by decide)) nl))) (cs (.tuple (cs (i _ (by decide)) (cs (i _ (by decide)) nl))) (cs (.int (by decide +kernel)) nl)))))
theorem odd_eq (n : Int) : F_law_odd [.int n] = atI oddL (n % 27) := by
  have e : ∀ o : Option Dt, o = some (oddL.getD ((n % 27).toNat) .none) → atI oddL (n % 27) = o := by
    intro o ho
    rw [ho]
    have hm := md n 27 (by decide)
    unfold atI ixN
    rw [if_pos hm.1, if_pos (by show n % 27 < 27; omega), Option.bind_some, List.getD_eq_getElem?_getD]
    have hl : (n % 27).toNat < oddL.length := by show _ < 27; omega
    rw [List.getElem?_eq_getElem hl]
    rfl
  have hm := md n 27 (by decide)
  have hl : (n % 27).toNat < oddL.length := by show _ < 27; omega
  have at1 : atI oddL (n % 27) = some (oddL.getD ((n % 27).toNat) .none) := e _ rfl
  rw [at1]
  refine run_rt rfl ?_
  show B_law_odd [vI n, .unk] = _
  unfold B_law_odd
  have p30 : powD (.int 10) (.int 30) = some (.int 1000000000000000000000000000000) := by simp [powD]
  have l1 : ∀ ρ : Dn, (mkLst (aCons (e1 negD (cst (.int 1))) (aCons (cst (.int 0)) (aCons (cst (.int 1)) (aCons (cst (.int 2)) (aCons (cst (.bool true)) (aCons (cst (.bool false)) (aCons (cst .none) (aCons (cst (.str (PySem.Str.ofString ""))) (aCons (cst (.str (PySem.Str.ofString "far"))) (aCons (mkTup aNil) (aCons (mkLst aNil) (aCons (mkTup (aCons (cst (.int 0)) aNil)) (aCons (mkTup (aCons (cst (.int 1)) (aCons (cst (.int 2)) aNil))) (aCons (mkTup (aCons (cst (.bool true)) (aCons (cst (.int 1)) aNil))) (aCons (mkLst (aCons (cst (.int 1)) (aCons (cst (.int 2)) aNil))) (aCons (mkTup (aCons (cst (.str (PySem.Str.ofString "0"))) (aCons (cst (.int 1)) aNil))) (aCons (mkTup (aCons (cst (.int 1)) (aCons (cst (.int 2)) (aCons (cst (.int 3)) aNil)))) (aCons (cst (.int 31)) aNil))))))))))))))))))) ρ = some (.list (oddL.take 18)) := fun ρ => rfl
  rw [seq_set (l1 _)]
  simp only [List.set_cons_succ, List.set_cons_zero]
  have l2 : ∀ ρ : Dn, (mkLst (aCons (mkTup (aCons (cst (.int 0)) (aCons (cst (.int 0)) aNil))) (aCons (mkTup (aCons (cst (.int 1)) (aCons (cst (.bool false)) aNil))) (aCons (mkTup (aCons (mkTup aNil) (aCons (mkTup aNil) aNil))) (aCons (cst (.int 4)) (aCons (cst (.int 37)) (aCons (cst (.int 9)) (aCons (mkTup (aCons (cst (.int 31)) (aCons (cst (.int 1)) aNil))) (aCons (mkTup (aCons (e1 negD (cst (.int 1))) (aCons (cst (.int 2)) aNil))) (aCons (e2 powD (cst (.int 10)) (cst (.int 30))) aNil)))))))))) ρ = some (.list (oddL.drop 18)) := by
    intro ρ
    unfold mkLst
    simp only [r_aCons, r_mkTup2, r_mkTup0, r_cst, r_e1, o_neg, r_e2, p30, Option.bind_some, r_aNil, Option.map_some]
    rfl
  simp only [r_sRet, r_e2, r_getW, r_getV, nth0, nthS, r_slWv, r_slV, l2, Option.bind_some, r_cst, o_mod (show (0 : Int) < 27 by decide)]
  have ad : addD (.list (oddL.take 18)) (.list (oddL.drop 18)) = some (.list oddL) := rfl
  rw [ad, Option.bind_some, o_ixL, at1]
  rfl
theorem odd_ok (n : Int) : ∃ d, F_law_odd [.int n] = some d ∧ Tm 3 d := by
  have hm := md n 27 (by decide)
  rw [odd_eq]
  unfold atI ixN
  rw [if_pos hm.1, if_pos (by show n % 27 < 27; omega), Option.bind_some]
  have hl : (n % 27).toNat < oddL.length := by show _ < 27; omega
  exact ⟨_, List.getElem?_eq_getElem hl, odd_tm _ (List.getElem_mem hl)⟩
end Pf

-- part Lm27
set_option maxHeartbeats 1000000
namespace Pf
open PySem Cc L2
/-! ### things spoilt -/
inductive Si : Nat → Dt → Prop
  | int {k} {i : Int} (h : 0 ≤ i ∧ i < 100) : Si k (.int i)
  | tuple {k ds} (hl : ds.length ≤ 10) (h : ∀ d ∈ ds, Si k d) : Si (k + 1) (.tuple ds)
theorem Si.tm {k : Nat} {d : Dt} (h : Si k d) : Tm k d := by
  induction h with
  | int h => exact .int (b200 (by omega))
  | tuple hl _ ih => exact .tuple ih (by omega)
theorem atI_mem {α : Type} {xs : List α} {m : Int} (h0 : 0 ≤ m) (h1 : m < xs.length) : ∃ x, x ∈ xs ∧ atI xs m = some x := by
  unfold atI ixN
  rw [if_pos h0, if_pos h1, Option.bind_some]
  have hl : m.toNat < xs.length := by omega
  exact ⟨_, List.getElem_mem hl, List.getElem?_eq_getElem hl⟩
theorem cut_mem {α : Type} {xs : List α} {lo hi : Option Int} {x : α} (h : x ∈ cutL xs lo hi) : x ∈ xs := List.mem_of_mem_drop (List.mem_of_mem_take h)
theorem cut_len {α : Type} {xs : List α} {lo hi : Option Int} : (cutL xs lo hi).length ≤ xs.length := by
  unfold cutL
  rw [List.length_take, List.length_drop]; omega
theorem small_ok : ∀ i ∈ rng 100, PyData.strOk (toString i) = true := by decide +kernel
theorem small_str {i : Int} (h : 0 ≤ i ∧ i < 100) : strD [.int i] = some (.str (toString i)) := if_pos (Nat.lt_of_lt_of_le (show i.natAbs < 100 by omega) (by decide +kernel))
@[simp] theorem isTuple_int {i : Int} : isTuple (.int i) = some (.bool false) := rfl
@[simp] theorem isInt_tup {ds : List Dt} : isInt (.tuple ds) = some (.bool false) := rfl
@[simp] theorem isInt_int {i : Int} : isInt (.int i) = some (.bool true) := rfl
theorem add_tup {xs ys : List Dt} (h : xs.length + ys.length ≤ 10000) : addD (.tuple xs) (.tuple ys) = some (.tuple (xs ++ ys)) := if_pos (Nat.le_trans h (by decide))
theorem spoilt_body {self : List Dt → Option Dt} {k : Nat} {d : Dt} (hd : Si k d) {n deep : Int} (hs : 0 < deep → ∀ (e : Dt) (m : Int), Si (k - 1) e → ∃ r, self [e, .int m, .int (deep - 1)] = some r ∧ Tm (k + 2) r) :
    ∃ r, B_law_spoilt self [.val d, vI n, vI deep, .unk, .unk] = some (.rt r) ∧ Tm (k + 3) r := by
  have q6 := md n 6 (by decide)
  obtain ⟨o, ho, to⟩ := odd_ok (n / 6)
  have to : Tm (k + 3) o := to.le (by omega)
  cases hd with
  | int h =>
    rename_i i
    unfold B_law_spoilt
    rw [seq_if_no (by
      by_cases h : 0 < deep <;> simp [h]), seq_if_no (by simp)]
    by_cases hc : n / 6 % 2 = 0
    · obtain ⟨r, hr, e⟩ := atI_mem (xs := [PyData.str (toString i), .int (-i), .int (i + 1), .bool (decide (i = 1)), .int (i - 1), .int (i * 2), .int (i + 31)]) (m := n / 12 % 7) (md _ _ (by decide)).1 (md (n / 12) 7 (by decide)).2
      have m2 : mulD (.int i) (.int 2) = some (.int (i * 2)) := o_mul (.inl (by omega))
      have ml : mkLst (aCons (callF strD (aCons (getV 0) aNil)) (aCons (e1 negD (getV 0)) (aCons (e2 addD (getV 0) (cst (.int 1))) (aCons (e2 eqD (getV 0) (cst (.int 1))) (aCons (e2 subD (getV 0) (cst (.int 1))) (aCons (e2 mulD (getV 0) (cst (.int 2))) (aCons (e2 addD (getV 0) (cst (.int 31))) aNil)))))))
          [.val (.int i), vI n, vI deep, .unk, .unk] = some (.list [PyData.str (toString i), .int (-i), .int (i + 1), .bool (decide (i = 1)), .int (i - 1), .int (i * 2), .int (i + 31)]) := by
        unfold mkLst
        simp only [r_aCons, r_callF, r_getV, nth0, r_slV, Option.bind_some, r_aNil, Option.map_some, small_str h, r_e1, o_neg, r_e2, r_cst, o_add, o_eqI, o_sub, m2]
        rfl
      refine ⟨r, seq_if_yes (by simp (disch := omega) [hc]) ?_, ?_⟩
      · rw [r_sRet, r_e2, ml, Option.bind_some]
        clear hr
        generalize [PyData.str (toString i), .int (-i), .int (i + 1), .bool (decide (i = 1)), .int (i - 1), .int (i * 2), .int (i + 31)] = xs at e
        simp (disch := omega) [e]
      · simp only [List.mem_cons, List.not_mem_nil, or_false] at hr
        rcases hr with rfl | rfl | rfl | rfl | rfl | rfl | rfl
        · exact .str (small_ok i (mem_rng.mpr h))
        · exact .int (b200 (by omega))
        · exact .int (b200 (by omega))
        · exact .bool _
        · exact .int (b200 (by omega))
        · exact .int (b200 (by omega))
        · exact .int (b200 (by omega))
    · refine ⟨o, ?_, to⟩
      rw [seq_if_no (by simp (disch := omega) [hc])]
      simp (disch := omega) [ho]
  | tuple hl h =>
    rename_i k ds
    have tds : ∀ e ∈ ds, Tm (k + 1 + 2) e := fun e he => (h e he).tm.le (by omega)
    unfold B_law_spoilt
    by_cases c1 : 0 < deep ∧ 0 < ds.length ∧ 0 < n % 6
    · obtain ⟨d1, d2, d3⟩ := c1
      have hat := md (n / 6) ds.length (by omega)
      obtain ⟨e, he, ea⟩ := atI_mem hat.1 hat.2
      obtain ⟨r, hr, tr⟩ := hs d1 e (n / 126) (h e he)
      have q2 : modD (.int (n / 6)) (.int ds.length) = some (.int (n / 6 % ds.length)) := o_mod (by omega)
      have l1 := cut_len (xs := ds) (lo := none) (hi := some (n / 6 % ds.length))
      have l2 := cut_len (xs := ds) (lo := some (n / 6 % ds.length + 1)) (hi := none)
      refine ⟨.tuple ((cutL ds none (some (n / 6 % ds.length)) ++ [r]) ++ cutL ds (some (n / 6 % ds.length + 1)) none), seq_rt ?_, .tuple (fun x hx => ?_) (by simp; omega)⟩
      · rw [r_sIf]
        have ht : tAn (tB' (e2 gtD (getV 2) (cst (.int 0)))) (tAn (tB' (e1 isTuple (getV 0))) (tAn (tB' (e2 gtD (callF lenD (aCons (getV 0) aNil)) (cst (.int 0)))) (tB' (e2 gtD (e2 modD (getV 1) (cst (.int 6))) (cst (.int 0)))))) [.val (.tuple ds), vI n, vI deep, .unk, .unk] = some true := by
          simp (disch := omega) [d1, d2, d3]
        rw [ht, Option.bind_some, if_pos rfl]
        rw [seq_set (d := .int (n / 6 % ds.length)) (by simp (disch := omega) [q2])]
        simp only [List.set_cons_succ, List.set_cons_zero]
        rw [seq_set (d := r) (by simp (disch := omega) [ea, hr])]
        simp only [List.set_cons_succ, List.set_cons_zero]
        have a1 := add_tup (xs := cutL ds none (some (n / 6 % ds.length))) (ys := [r]) (by simp; omega)
        have a2 := add_tup (xs := cutL ds none (some (n / 6 % ds.length)) ++ [r]) (ys := cutL ds (some (n / 6 % ds.length + 1)) none) (by simp; omega)
        simp [sliceD, a1, a2]
      · rcases List.mem_append.mp hx with hx | hx
        · rcases List.mem_append.mp hx with hx | hx
          · exact tds x (cut_mem hx)
          · rw [List.mem_singleton.mp hx]; exact tr
        · exact tds x (cut_mem hx)
    · rw [seq_if_no (by
        by_cases d1 : 0 < deep
        · by_cases d2 : 0 < ds.length
          · have d3 : ¬ 0 < n % 6 := fun z => c1 ⟨d1, d2, z⟩
            simp (disch := omega) [d1, d2, d3]
          · have : ¬ (0 : Int) < ds.length := by omega
            simp [d1, d2, this]
        · simp [d1])]
      by_cases c2 : 0 < ds.length ∧ n / 6 % 2 = 0
      · obtain ⟨d2, d4⟩ := c2
        have d2' : (0 : Int) < ds.length := by omega
        obtain ⟨r, hr, e⟩ := atI_mem (xs := [PyData.list ds, .tuple (cutL ds none (some (-1))), .tuple (ds ++ cutL ds (some (-1)) none), .tuple (cutL ds (some 1) none), .tuple ds.reverse, .tuple (List.replicate 2 ds).flatten]) (m := n / 12 % 6) (md _ _ (by decide)).1 (md (n / 12) 6 (by decide)).2
        have l2 := cut_len (xs := ds) (lo := some (-1)) (hi := none)
        have m2 : mulD (.tuple ds) (.int 2) = some (.tuple (List.replicate 2 ds).flatten) := by
          refine if_pos ?_
          have : ds.isEmpty = false := by cases ds <;> first | (simp at d2; done) | rfl
          simp [this]; omega
        have ml : mkLst (aCons (callF listD (aCons (getV 0) aNil)) (aCons (slcF (getV 0) oNo (oSo (e1 negD (cst (.int 1))))) (aCons (e2 addD (getV 0) (slcF (getV 0) (oSo (e1 negD (cst (.int 1)))) oNo)) (aCons (slcF (getV 0) (oSo (cst (.int 1))) oNo) (aCons (e1 revD (getV 0)) (aCons (e2 mulD (getV 0) (cst (.int 2))) aNil))))))
            [.val (.tuple ds), vI n, vI deep, .unk, .unk] = some (.list [PyData.list ds, .tuple (cutL ds none (some (-1))), .tuple (ds ++ cutL ds (some (-1)) none), .tuple (cutL ds (some 1) none), .tuple ds.reverse, .tuple (List.replicate 2 ds).flatten]) := by
          unfold mkLst
          simp only [r_aCons, r_callF, r_getV, nth0, r_slV, Option.bind_some, r_aNil, Option.map_some, r_e1, r_e2, r_cst, o_neg, r_slcF, r_oNo, r_oSo, r_asI, sliceD, listD, revD, add_tup (xs := ds) (ys := cutL ds (some (-1)) none) (by omega), m2]
          rfl
        refine ⟨r, seq_if_yes (by simp (disch := omega) [d2, d4]) ?_, ?_⟩
        · rw [r_sRet, r_e2, ml, Option.bind_some]
          clear hr
          generalize [PyData.list ds, .tuple (cutL ds none (some (-1))), .tuple (ds ++ cutL ds (some (-1)) none), .tuple (cutL ds (some 1) none), .tuple ds.reverse, .tuple (List.replicate 2 ds).flatten] = xs at e
          simp (disch := omega) [e]
        · simp only [List.mem_cons, List.not_mem_nil, or_false] at hr
          rcases hr with rfl | rfl | rfl | rfl | rfl | rfl
          · exact .list tds (by omega)
          · exact .tuple (fun x hx => tds x (cut_mem hx)) (Nat.le_trans cut_len (by omega))
          · refine .tuple (fun x hx => ?_) (by rw [List.length_append]; omega)
            rcases List.mem_append.mp hx with hx | hx
            · exact tds x hx
            · exact tds x (cut_mem hx)
          · exact .tuple (fun x hx => tds x (cut_mem hx)) (Nat.le_trans cut_len (by omega))
          · exact .tuple (fun x hx => tds x (List.mem_reverse.mp hx)) (by rw [List.length_reverse]; omega)
          · refine .tuple (fun x hx => ?_) (by simp [List.replicate_succ]; omega)
            obtain ⟨l, hl, hx⟩ := List.mem_flatten.mp hx
            rw [(List.mem_replicate.mp hl).2] at hx
            exact tds x hx
      · refine ⟨o, ?_, to⟩
        rw [seq_if_no (by
          by_cases d2 : 0 < ds.length
          · have d4 : ¬ n / 6 % 2 = 0 := fun z => c2 ⟨d2, z⟩
            simp (disch := omega) [d2, d4]
          · have : ¬ (0 : Int) < ds.length := by omega
            simp [d2, this]), seq_if_no (by simp)]
        simp (disch := omega) [ho]
theorem spoilt_ok {d : Dt} (hd : Si 2 d) (n : Int) {deep : Int} (h : 0 ≤ deep ∧ deep ≤ 2) : ∃ r, F_law_spoilt [d, .int n, .int deep] = some r ∧ Tm 5 r := by
  have l1 : ∀ (e : Dt) (m : Int), Si 0 e → ∃ r, F_law_spoilt_1 [e, .int m, .int 0] = some r ∧ Tm 3 r := by
    intro e m he
    obtain ⟨r, h1, h2⟩ := spoilt_body (self := F_law_spoilt_0) he (n := m) (deep := 0) (fun z => by omega)
    exact ⟨r, run_rt rfl h1, h2⟩
  have l2 : ∀ (e : Dt) (m : Int) (q : Int), 0 ≤ q → q ≤ 1 → Si 1 e → ∃ r, F_law_spoilt_2 [e, .int m, .int q] = some r ∧ Tm 4 r := by
    intro e m q q0 q1 he
    obtain ⟨r, h1, h2⟩ := spoilt_body (self := F_law_spoilt_1) he (n := m) (deep := q) (fun z e m he => by
      have : q - 1 = 0 := by omega
      rw [this]; exact l1 e m he)
    exact ⟨r, run_rt rfl h1, h2⟩
  obtain ⟨r, h1, h2⟩ := spoilt_body (self := F_law_spoilt_2) hd (n := n) (deep := deep) (fun z e m he => l2 e m (deep - 1) (by omega) (by omega) he)
  exact ⟨r, run_rt rfl h1, h2⟩
end Pf

-- part M31
set_option maxHeartbeats 1000000
namespace Pf
open PySem Cc L2
theorem forL_nx {g : GF} {B : SF} {x : Dt} {xs : List Dt} {ρ ρ1 ρ2 : Dn} (h : g x ρ = some ρ1) (h2 : B ρ1 = some (.nx ρ2)) : forL g B (x :: xs) ρ = forL g B xs ρ2 := by
  show (g x ρ).bind (fun ρ1 => match B ρ1 with | some (.nx ρ2) => forL g B xs ρ2 | r => r) = _
  rw [h]
  show (match B ρ1 with | some (.nx ρ2) => forL g B xs ρ2 | r => r) = _
  rw [h2]
theorem forL_rt {g : GF} {B : SF} {x d : Dt} {xs : List Dt} {ρ ρ1 : Dn} (h : g x ρ = some ρ1) (h2 : B ρ1 = some (.rt d)) : forL g B (x :: xs) ρ = some (.rt d) := by
  show (g x ρ).bind (fun ρ1 => match B ρ1 with | some (.nx ρ2) => forL g B xs ρ2 | r => r) = _
  rw [h]
  show (match B ρ1 with | some (.nx ρ2) => forL g B xs ρ2 | r => r) = _
  rw [h2]
theorem mul_200 {x y : Int} (h : x.natAbs < 2 ^ 200) (h2 : y.natAbs < 2 ^ 200) : mulD (.int x) (.int y) = some (.int (x * y)) := by
  refine if_pos ?_
  unfold mulOk
  rw [Bool.or_eq_true, Bool.and_eq_true, decide_eq_true_eq, decide_eq_true_eq]
  exact .inr ⟨Nat.lt_of_lt_of_le h (by decide +kernel), Nat.lt_of_lt_of_le h2 (by decide +kernel)⟩
/-! ### in, of things -/
theorem eqvAll_nobool : ∀ {t : List Int} {ds : List Dt}, PyData.eqvAll (t.map .int) ds = true → ds.all (fun d => !boolB d) = true → ds = t.map .int
  | [], [], _, _ => rfl
  | [], _ :: _, h, _ => by simp [PyData.eqvAll] at h
  | _ :: _, [], h, _ => by simp [PyData.eqvAll] at h
  | i :: t, d :: ds, h, hb => by
    rw [List.map_cons, PyData.eqvAll, Bool.and_eq_true] at h
    rw [List.all_cons, Bool.and_eq_true] at hb
    rw [eqvAll_nobool h.2 hb.2, List.map_cons]
    congr 1
    have h1 := h.1
    have h2 := hb.1
    cases d <;> first
      | (simp [boolB] at h2; done)
      | (simp [PyData.eqv] at h1; done)
      | (simp only [PyData.eqv, beq_iff_eq] at h1; rw [h1])
theorem filter_none {α : Type} {f : α → Bool} {xs : List α} : xs.filter f = [] ↔ xs.all (fun x => !f x) = true := by
  rw [List.filter_eq_nil_iff, List.all_eq_true]
  simp
theorem ne_list0 {k : Nat} {ds : List Dt} (h : ∀ d ∈ ds, Tm k d) (hk : k ≤ 60) : neD (.list ds) (.list []) = some (.bool (!ds.isEmpty)) := by
  have sh : SeqAt.shaped (.list ds) = true := sh_of (by rw [PyData.canLay0]; exact layAll_of fun d hd => (h d hd).lay.1) (by have := depAll_of fun d hd => (h d hd).lay.2; simp [PyData.depth]; omega)
  unfold neD
  rw [sh, show SeqAt.shaped (.list []) = true from sh_nil, Bool.and_self, if_pos rfl]
  cases ds <;> simp [PyData.eqv, PyData.eqvAll]
/-- among points, no truths within -/
theorem in_pts {k : Nat} {a b p : Int} {ds : List Dt} (h : Tm (k + 1) (.tuple ds)) : (((ptsM a b p).map tupI).any (fun z => PyData.eqv z (.tuple ds)) && (ds.filter boolB).isEmpty) = ptB a b p (.tuple ds) := by
  rw [Bool.eq_iff_iff, Bool.and_eq_true, List.any_eq_true, ptB_iff, List.isEmpty_iff, filter_none]
  constructor
  · rintro ⟨⟨z, hz, e⟩, hb⟩
    obtain ⟨t, ht, rfl⟩ := List.mem_map.mp hz
    refine ⟨t, ht, ?_⟩
    unfold tupI at e ⊢
    rw [PyData.eqv] at e
    rw [eqvAll_nobool e hb]
  · rintro ⟨t, ht, e⟩
    refine ⟨⟨tupI t, List.mem_map.mpr ⟨t, ht, rfl⟩, ?_⟩, ?_⟩
    · rw [e, eqv_tupI]; simp
    · have : ds = t.map .int := by unfold tupI at e; exact PyData.tuple.inj e
      rw [this, List.all_eq_true]
      intro d hd
      obtain ⟨i, _, rfl⟩ := List.mem_map.mp hd
      rfl
theorem cut_02 {x y z w : Dt} : cutL [x, y, z, w] none (some 2) = [x, y] := rfl
theorem cut_24 {x y z w : Dt} : cutL [x, y, z, w] (some 2) none = [z, w] := rfl
section
variable {p a b m n : Int} {g : Int → Int → List Int}
/-- a turn of the law's second loop -/
theorem shown_turn2 {k : Nat} {d : Dt} (hd : Tm k d) (hk : k ≤ 50) {s3 s4 s6 s7 s8 s9 s10 : Sl} (hlen : (ptsM a b p).length ≤ 1000) :
    L_law_shown_k31_2 [vP a b, vI p, .val (.list ((ptsM a b p).map tupI)), s3, s4, .val d, s6, s7, s8, s9, s10] = if ptB a b p d then some (.nx [vP a b, vI p, .val (.list ((ptsM a b p).map tupI)), s3, s4, .val d, s6, s7, s8, s9, s10]) else some (.rt (.bool false)) := by
  unfold L_law_shown_k31_2
  by_cases ht : ∃ ds, d = .tuple ds
  · obtain ⟨ds, rfl⟩ := ht
    obtain ⟨k, rfl⟩ : ∃ j, k = j + 1 := by cases hd; exact ⟨_, rfl⟩
    have hin := in_pts (a := a) (b := b) (p := p) hd
    have no : notInD (.tuple ds) (.list ((ptsM a b p).map tupI)) = some (.bool (!(((ptsM a b p).map tupI).any (fun z => PyData.eqv z (.tuple ds))))) := by
      unfold notInD
      simp only []
      rw [hd.sh (by omega), sh_listT, Bool.and_self, if_pos rfl]
    have two : ds.length ≤ 1000 ∨ ((ptsM a b p).map tupI).any (fun z => PyData.eqv z (.tuple ds)) = false := by
      cases h : ((ptsM a b p).map tupI).any (fun z => PyData.eqv z (.tuple ds))
      · exact .inr rfl
      · left
        obtain ⟨z, hz, e⟩ := List.any_eq_true.mp h
        obtain ⟨t, ht, rfl⟩ := List.mem_map.mp hz
        unfold tupI at e
        rw [PyData.eqv] at e
        have : ∀ (t : List Int) (ds : List Dt), PyData.eqvAll (t.map .int) ds = true → t.length = ds.length := by
          intro t
          induction t with
          | nil => intro ds h; cases ds <;> first | rfl | simp [PyData.eqvAll] at h
          | cons i t ih =>
            intro ds h
            cases ds with
            | nil => simp [PyData.eqvAll] at h
            | cons d ds =>
              rw [List.map_cons, PyData.eqvAll, Bool.and_eq_true] at h
              rw [List.length_cons, List.length_cons, ih ds h.2]
        have := this t ds e
        have := pts_two ht
        omega
    cases h : ((ptsM a b p).map tupI).any (fun z => PyData.eqv z (.tuple ds)) with
    | false =>
      rw [h] at hin no
      rw [← hin]
      exact seq_if_yes (by simp [-List.any_map, no]) (by simp)
    | true =>
      rw [h] at hin no
      have hl : ds.length ≤ 1000 := two.resolve_right (by rw [h]; simp)
      rw [seq_if_no (by simp [-List.any_map, no])]
      have lc : lcF (iSeq (getV 5)) [4] (gSet 4) T_law_shown_k31_1 E_law_shown_k31_2 [vP a b, vI p, .val (.list ((ptsM a b p).map tupI)), s3, s4, .val (.tuple ds), s6, s7, s8, s9, s10] = some (ds.filter boolB) := by
        have it : iSeq (getV 5) [vP a b, vI p, .val (.list ((ptsM a b p).map tupI)), s3, s4, .val (.tuple ds), s6, s7, s8, s9, s10] = some ds := rfl
        have := lcL_filter (f := id) (g := gSet 4) (t := T_law_shown_k31_1) (e := E_law_shown_k31_2) (ρ := wipeD [vP a b, vI p, .val (.list ((ptsM a b p).map tupI)), s3, s4, .val (.tuple ds), s6, s7, s8, s9, s10] [4]) boolB id ds fun d hd' => ⟨_, rfl, by simp [T_law_shown_k31_1, wipeD, isBool_tm (hd.mem hd')], fun _ => by simp [E_law_shown_k31_2, wipeD]⟩
        rw [List.map_id, List.map_id] at this
        rw [r_lcF, it, Option.bind_some, if_pos (by omega), this]
      have nl := ne_list0 (ds := ds.filter boolB) (k := k) (fun d hd' => hd.mem (List.mem_filter.mp hd').1) (by omega)
      rw [r_sIf, r_tB, r_e2, r_lstF, lc]
      rw [Bool.true_and] at hin
      rw [← hin]
      cases q : (ds.filter boolB).isEmpty <;> simp [nl, q]
  · have tf : tupB d = false := by cases d <;> first | rfl | exact absurd ⟨_, rfl⟩ ht
    have : ptB a b p d = false := by cases d <;> first | rfl | exact absurd ⟨_, rfl⟩ ht
    rw [this]
    exact seq_if_yes (by simp [isTuple_tm hd, tf]) (by simp)
def inR (N : Int) : Dt → Bool
  | .int i => decide (1 ≤ i) && decide (i ≤ N)
  | _ => false
theorem shown_turn3 {k : Nat} {d : Dt} (hd : Tm k d) {s0 s1 s3 s5 s6 s7 s8 s9 s10 : Sl} {ts : List (List Int)} :
    L_law_shown_k31_3 [s0, s1, .val (.list (ts.map tupI)), s3, .val d, s5, s6, s7, s8, s9, s10] = if inR ts.length d then some (.nx [s0, s1, .val (.list (ts.map tupI)), s3, .val d, s5, s6, s7, s8, s9, s10]) else some (.rt (.bool false)) := by
  unfold L_law_shown_k31_3
  cases hd with
  | int _ =>
    rename_i i _
    by_cases h : 1 ≤ i
    · by_cases h2 : i ≤ ts.length <;> simp [inR, h, h2]
    · simp [inR, h]
  | bool b => simp [inR, isiD]
  | non => simp [inR, isiD]
  | str _ => simp [inR, isiD]
  | list _ => simp [inR, isiD]
  | tuple _ => simp [inR, isiD]
/-- what both answer of a tuple of two orders and two points -/
def shV (a p N i j : Int) (P Q : List Int) : Bool := decide (j % i = 0 ∧ i * j = N ∧ (ordM a p P : Int) = i ∧ (ordM a p Q : Int) = j ∧ ((dedup (madeM a p P Q)).length : Int) = N)
theorem shows_good (G : Gr p a b m n g) (c : Cv p a b) {i j : Int} {P Q : List Int} (hi : 1 ≤ i) (hj : 1 ≤ j) (bi : i.natAbs < 2 ^ 200) (bj : j.natAbs < 2 ^ 200) (hP : P ∈ ptsM a b p) (hQ : Q ∈ ptsM a b p) :
    F_shows_form [.tuple [.int a, .int b], .int p, .tuple [.int i, .int j, tupI P, tupI Q]] = some (.bool (shV a p (ptsM a b p).length i j P Q)) := by
  have l63 := pts_63 c
  refine run_rt rfl ?_
  show B_shows_form [vP a b, vI p, .val (.tuple [.int i, .int j, tupI P, tupI Q])] = _
  unfold B_shows_form
  rw [seq_if_no (by simp)]
  have hmod : modD (.int j) (.int i) = some (.int (j % i)) := o_mod (by omega)
  have hm1 := mul_200 bi bj
  have h1 : ¬ i < 1 := by omega
  have h2 : ¬ j < 1 := by omega
  by_cases c1 : j % i = 0
  · by_cases c2 : i * j = (ptsM a b p).length
    · rw [seq_if_no (by simp [h1, h2, hmod, hm1, F_count_eq c, c1, c2])]
      rw [seq_if_no (by simp [is_point_pt c hP, is_point_pt c hQ])]
      by_cases c3 : (ordM a p P : Int) = i
      · by_cases c4 : (ordM a p Q : Int) = j
        · rw [seq_if_no (by simp [F_order_eq G c hP, F_order_eq G c hQ, c3, c4])]
          have ml : (madeM a p P Q).length < 64 := by
            have : ((madeM a p P Q).length : Int) = i * j := by rw [made_len, Int.natCast_mul, c3, c4]
            omega
          have ls := lenSet_of (ts := madeM a p P Q) ml
          simp [F_made_eq G c hP hQ, ls, hm1, shV, c1, c2, c3, c4]
        · exact seq_if_yes (by simp [F_order_eq G c hP, F_order_eq G c hQ, c3, c4]) (by simp [shV, c4])
      · exact seq_if_yes (by simp [F_order_eq G c hP, c3]) (by simp [shV, c3])
    · exact seq_if_yes (by simp [h1, h2, hmod, hm1, F_count_eq c, c1, c2]) (by simp [shV, c2])
  · exact seq_if_yes (by simp [h1, h2, hmod, c1]) (by simp [shV, c1])
theorem shown_good (G : Gr p a b m n g) (c : Cv p a b) {i j : Int} {P Q : List Int} (hi : 1 ≤ i) (hj : 1 ≤ j) (bi : i.natAbs < 2 ^ 200) (bj : j.natAbs < 2 ^ 200) (hP : P ∈ ptsM a b p) (hQ : Q ∈ ptsM a b p) :
    F_law_shown_k31 [.tuple [.int a, .int b], .int p, .list ((ptsM a b p).map tupI), .tuple [.int i, .int j, tupI P, tupI Q]] = some (.bool (shV a p (ptsM a b p).length i j P Q)) := by
  have p1 := c.p1; have p0 := c.p0
  have hlen := pts_len (a := a) (b := b) (p := p) (by omega) p1
  have l63 := pts_63 c
  have bP : ∀ {R : List Int}, R ∈ ptsM a b p → Tm 1 (tupI R) := fun hR => tm_tupI (fun i hi => by
    rcases mem_pts.mp hR with rfl | ⟨x, y, rfl, hx, hy, _⟩
    · cases hi
    · simp only [List.mem_cons, List.not_mem_nil, or_false] at hi
      rcases hi with rfl | rfl <;> exact b200 (by omega)) (by have := pts_two hR; omega)
  refine run_rt rfl ?_
  show B_law_shown_k31 [vP a b, vI p, .val (.list ((ptsM a b p).map tupI)), .val (.tuple [.int i, .int j, tupI P, tupI Q]), .unk, .unk, .unk, .unk, .unk, .unk, .unk] = _
  unfold B_law_shown_k31
  rw [seq_if_no (by simp)]
  have it1 : iSeq (slcF (getV 3) oNo (oSo (cst (.int 2)))) [vP a b, vI p, .val (.list ((ptsM a b p).map tupI)), .val (.tuple [.int i, .int j, tupI P, tupI Q]), .unk, .unk, .unk, .unk, .unk, .unk, .unk] = some [.int i, .int j] := rfl
  have big : ∀ {x y : Int}, 1 ≤ x → 1 ≤ y → x * y = (ptsM a b p).length → x ≤ (ptsM a b p).length := by
    intro x y hx hy e
    have : x * 1 ≤ x * y := Int.mul_le_mul_of_nonneg_left hy (by omega)
    omega
  by_cases ci : i ≤ (ptsM a b p).length
  · by_cases cj : j ≤ (ptsM a b p).length
    · have t1 := fun (s5 : Sl) => shown_turn3 (d := .int i) (k := 0) (.int bi) (s0 := vP a b) (s1 := vI p) (s3 := .val (.tuple [.int i, .int j, tupI P, tupI Q])) (s5 := s5) (s6 := .unk) (s7 := .unk) (s8 := .unk) (s9 := .unk) (s10 := .unk) (ts := ptsM a b p)
      have t2 := fun (s5 : Sl) => shown_turn3 (d := .int j) (k := 0) (.int bj) (s0 := vP a b) (s1 := vI p) (s3 := .val (.tuple [.int i, .int j, tupI P, tupI Q])) (s5 := s5) (s6 := .unk) (s7 := .unk) (s8 := .unk) (s9 := .unk) (s10 := .unk) (ts := ptsM a b p)
      rw [show inR (ptsM a b p).length (.int i) = true by simp [inR, hi, ci]] at t1
      rw [show inR (ptsM a b p).length (.int j) = true by simp [inR, hj, cj]] at t2
      rw [seq_nx (ρ' := [vP a b, vI p, .val (.list ((ptsM a b p).map tupI)), .val (.tuple [.int i, .int j, tupI P, tupI Q]), vI j, .unk, .unk, .unk, .unk, .unk, .unk]) (by
        rw [r_sFor, it1, Option.bind_some, forL_nx rfl (t1 _), forL_nx rfl (t2 _)]
        rfl)]
      have u1 := shown_turn2 (a := a) (b := b) (p := p) (bP hP) (by omega) (s3 := .val (.tuple [.int i, .int j, tupI P, tupI Q])) (s4 := vI j) (s6 := .unk) (s7 := .unk) (s8 := .unk) (s9 := .unk) (s10 := .unk) hlen
      have u2 := shown_turn2 (a := a) (b := b) (p := p) (bP hQ) (by omega) (s3 := .val (.tuple [.int i, .int j, tupI P, tupI Q])) (s4 := vI j) (s6 := .unk) (s7 := .unk) (s8 := .unk) (s9 := .unk) (s10 := .unk) hlen
      rw [show ptB a b p (tupI P) = true from ptB_iff.mpr ⟨P, hP, rfl⟩] at u1
      rw [show ptB a b p (tupI Q) = true from ptB_iff.mpr ⟨Q, hQ, rfl⟩] at u2
      have it2 : iSeq (slcF (getV 3) (oSo (cst (.int 2))) oNo) [vP a b, vI p, .val (.list ((ptsM a b p).map tupI)), .val (.tuple [.int i, .int j, tupI P, tupI Q]), vI j, .unk, .unk, .unk, .unk, .unk, .unk] = some [tupI P, tupI Q] := rfl
      rw [seq_nx (ρ' := [vP a b, vI p, .val (.list ((ptsM a b p).map tupI)), .val (.tuple [.int i, .int j, tupI P, tupI Q]), vI j, .val (tupI Q), .unk, .unk, .unk, .unk, .unk]) (by
        rw [r_sFor, it2, Option.bind_some, forL_nx rfl u1, forL_nx rfl u2]
        rfl)]
      have hmod : modD (.int j) (.int i) = some (.int (j % i)) := o_mod (by omega)
      by_cases c1 : j % i = 0
      · rw [seq_if_no (by simp [hmod, c1])]
        rw [seq_set (d := .list ((oftenM a p P).map tupI)) (by simp [F_often_eq G c hP])]
        simp only [List.set_cons_succ, List.set_cons_zero]
        rw [seq_set (d := .list ((oftenM a p Q).map tupI)) (by simp [F_often_eq G c hQ])]
        simp only [List.set_cons_succ, List.set_cons_zero]
        by_cases c3 : (ordM a p P : Int) = i
        · by_cases c4 : (ordM a p Q : Int) = j
          · rw [seq_if_no (by simp [often_len, c3, c4])]
            rw [seq_set (d := .list (([] : List (List Int)).map tupI)) (by simp)]
            simp only [List.set_cons_succ, List.set_cons_zero]
            have oQ64 := (G.ord c hQ).2.1
            have oP64 := (G.ord c hP).2.1
            generalize hth : PyData.tuple [.int i, .int j, tupI P, tupI Q] = th
            have inner : ∀ (A : List Int) (acc : List (List Int)) (s10 : Sl), A ∈ ptsM a b p → acc.length ≤ 10000 →
                L_law_shown_k31_1 [vP a b, vI p, .val (.list ((ptsM a b p).map tupI)), .val th, vI j, .val (tupI Q), .val (.list ((oftenM a p P).map tupI)), .val (.list ((oftenM a p Q).map tupI)), .val (.list (acc.map tupI)), .val (tupI A), s10] =
                some (.nx [vP a b, vI p, .val (.list ((ptsM a b p).map tupI)), .val th, vI j, .val (tupI Q), .val (.list ((oftenM a p P).map tupI)), .val (.list ((oftenM a p Q).map tupI)), .val (.list ((acc ++ (oftenM a p Q).map fun B => plusM a p A B).map tupI)), .val (tupI A), s10]) := by
              intro A acc s10 hA hacc
              have e : lcF (iSeq (getV 7)) [10] (gSet 10) tYesD E_law_shown_k31_1 [vP a b, vI p, .val (.list ((ptsM a b p).map tupI)), .val th, vI j, .val (tupI Q), .val (.list ((oftenM a p P).map tupI)), .val (.list ((oftenM a p Q).map tupI)), .val (.list (acc.map tupI)), .val (tupI A), s10] = some (((oftenM a p Q).map fun B => plusM a p A B).map tupI) := by
                have it : iSeq (getV 7) [vP a b, vI p, .val (.list ((ptsM a b p).map tupI)), .val th, vI j, .val (tupI Q), .val (.list ((oftenM a p P).map tupI)), .val (.list ((oftenM a p Q).map tupI)), .val (.list (acc.map tupI)), .val (tupI A), s10] = some ((oftenM a p Q).map tupI) := rfl
                rw [r_lcF, it, Option.bind_some, if_pos (by rw [List.length_map, often_len]; omega), lcL_map (f := tupI) (fun B => tupI (plusM a p A B)) (oftenM a p Q) fun B hB => ⟨_, rfl, rfl, ?_⟩, List.map_map]
                · rfl
                · obtain ⟨k, _, eB⟩ := mem_often.mp hB
                  have hB2 : B ∈ ptsM a b p := eB ▸ G.mul_pts hQ k
                  simp [E_law_shown_k31_1, wipeD, F_law_plus_eq c hA hB2]
              have ad : addD (.list (acc.map tupI)) (.list (((oftenM a p Q).map fun B => plusM a p A B).map tupI)) = some (.list ((acc ++ (oftenM a p Q).map fun B => plusM a p A B).map tupI)) := by
                rw [List.map_append]
                exact if_pos (by rw [List.length_map, List.length_map, List.length_map, often_len]; simp only [Lim]; omega)
              unfold L_law_shown_k31_1
              rw [r_sSet, r_e2, r_lstF, e]
              simp only [r_getV, nthS, nth0, r_slV, Option.bind_some, Option.map_some, ad]
              rfl
            have loop := forL_ind (f := tupI) (g := gSet 9) (B := L_law_shown_k31_1) (oftenM a p P)
              (fun i' ρ => ∃ s9, ρ = [vP a b, vI p, .val (.list ((ptsM a b p).map tupI)), .val th, vI j, .val (tupI Q), .val (.list ((oftenM a p P).map tupI)), .val (.list ((oftenM a p Q).map tupI)), .val (.list ((((oftenM a p P).take i').flatMap fun A => (oftenM a p Q).map fun B => plusM a p A B).map tupI)), s9, .unk])
              (ρ := [vP a b, vI p, .val (.list ((ptsM a b p).map tupI)), .val th, vI j, .val (tupI Q), .val (.list ((oftenM a p P).map tupI)), .val (.list ((oftenM a p Q).map tupI)), .val (.list (([] : List (List Int)).map tupI)), .unk, .unk]) ⟨.unk, by simp⟩
              (by
                rintro i' A _ hA ⟨s9, rfl⟩
                obtain ⟨k, _, eA⟩ := mem_often.mp (List.mem_of_getElem? hA)
                have hA2 : A ∈ ptsM a b p := eA ▸ G.mul_pts hP k
                have hacc : (((oftenM a p P).take i').flatMap fun A => (oftenM a p Q).map fun B => plusM a p A B).length ≤ 10000 := by
                  have h2 : ∀ xs : List (List Int), (xs.flatMap fun A => (oftenM a p Q).map fun B => plusM a p A B).length = xs.length * ordM a p Q := by
                    intro xs
                    induction xs with
                    | nil => simp
                    | cons x xs ih => rw [List.flatMap_cons, List.length_append, List.length_map, often_len, ih, List.length_cons, Nat.add_mul]; omega
                  rw [h2]
                  have : ((oftenM a p P).take i').length ≤ 64 := by rw [List.length_take, often_len]; omega
                  exact Nat.le_trans (Nat.mul_le_mul this (Nat.le_of_lt oQ64)) (by decide)
                refine ⟨_, _, rfl, inner A _ .unk hA2 hacc, .val (tupI A), ?_⟩
                rw [List.take_add_one, hA]
                simp)
            obtain ⟨_, h4, s9, rfl⟩ := loop
            rw [seq_nx (by rw [r_sFor]; exact h4), List.take_length]
            rw [show ((oftenM a p P).flatMap fun A => (oftenM a p Q).map fun B => plusM a p A B) = oftMade a p P Q from rfl]
            have om : ((oftMade a p P Q).length : Int) = i * j := by rw [oftMade_len, Int.natCast_mul, c3, c4]
            have od : (dedup (oftMade a p P Q)).length = (dedup (madeM a p P Q)).length := nodup_same_len nodup_dedup nodup_dedup fun t => by rw [mem_dedup, mem_dedup, mem_oftMade G c hP hQ]
            by_cases c2 : i * j = (ptsM a b p).length
            · have ls := lenSet_of (ts := oftMade a p P Q) (by omega)
              rw [od] at ls
              simp [om, c2, ls, shV, c1, c3, c4]
            · simp [om, c2, shV]
          · exact seq_if_yes (by simp [often_len, c3, c4]) (by simp [shV, c4])
        · exact seq_if_yes (by simp [often_len, c3]) (by simp [shV, c3])
      · exact seq_if_yes (by simp [hmod, c1]) (by simp [shV, c1])
    · have v : shV a p (ptsM a b p).length i j P Q = false := by
        unfold shV
        rw [decide_eq_false_iff_not]
        rintro ⟨_, e, _⟩
        exact cj (big (x := j) (y := i) hj hi (by rw [Int.mul_comm]; exact e))
      rw [v]
      have t1 := fun (s5 : Sl) => shown_turn3 (d := .int i) (k := 0) (.int bi) (s0 := vP a b) (s1 := vI p) (s3 := .val (.tuple [.int i, .int j, tupI P, tupI Q])) (s5 := s5) (s6 := .unk) (s7 := .unk) (s8 := .unk) (s9 := .unk) (s10 := .unk) (ts := ptsM a b p)
      have t2 := fun (s5 : Sl) => shown_turn3 (d := .int j) (k := 0) (.int bj) (s0 := vP a b) (s1 := vI p) (s3 := .val (.tuple [.int i, .int j, tupI P, tupI Q])) (s5 := s5) (s6 := .unk) (s7 := .unk) (s8 := .unk) (s9 := .unk) (s10 := .unk) (ts := ptsM a b p)
      rw [show inR (ptsM a b p).length (.int i) = true by simp [inR, hi, ci]] at t1
      rw [show inR (ptsM a b p).length (.int j) = false by simp [inR, hj, cj]] at t2
      exact seq_rt (by rw [r_sFor, it1, Option.bind_some, forL_nx rfl (t1 _), forL_rt rfl (t2 _)])
  · have v : shV a p (ptsM a b p).length i j P Q = false := by
      unfold shV
      rw [decide_eq_false_iff_not]
      rintro ⟨_, e, _⟩
      exact ci (big hi hj e)
    rw [v]
    have t1 := fun (s5 : Sl) => shown_turn3 (d := .int i) (k := 0) (.int bi) (s0 := vP a b) (s1 := vI p) (s3 := .val (.tuple [.int i, .int j, tupI P, tupI Q])) (s5 := s5) (s6 := .unk) (s7 := .unk) (s8 := .unk) (s9 := .unk) (s10 := .unk) (ts := ptsM a b p)
    rw [show inR (ptsM a b p).length (.int i) = false by simp [inR, ci]] at t1
    exact seq_rt (by rw [r_sFor, it1, Option.bind_some, forL_rt rfl (t1 _)])
/-- a tuple of two numbers from 1 on, and two points -/
def Good (a b p : Int) (d : Dt) : Prop := ∃ (i j : Int) (P Q : List Int), d = .tuple [.int i, .int j, tupI P, tupI Q] ∧ 1 ≤ i ∧ 1 ≤ j ∧ P ∈ ptsM a b p ∧ Q ∈ ptsM a b p
theorem shows_bad (c : Cv p a b) {k : Nat} {d : Dt} (hd : Tm k d) (hk : k ≤ 50) (hg : ¬ Good a b p d) : F_shows_form [.tuple [.int a, .int b], .int p, d] = some (.bool false) := by
  refine run_rt rfl ?_
  show B_shows_form [vP a b, vI p, .val d] = _
  unfold B_shows_form
  by_cases h4 : ∃ x y z w, d = .tuple [x, y, z, w]
  · obtain ⟨x, y, z, w, rfl⟩ := h4
    obtain ⟨k, rfl⟩ : ∃ j, k = j + 1 := by cases hd; exact ⟨_, rfl⟩
    have tx := hd.mem (d := x) (by simp)
    have ty := hd.mem (d := y) (by simp)
    have tz := hd.mem (d := z) (by simp)
    have tw := hd.mem (d := w) (by simp)
    by_cases hx : ∃ i, x = .int i
    · obtain ⟨i, rfl⟩ := hx
      by_cases hy : ∃ j, y = .int j
      · obtain ⟨j, rfl⟩ := hy
        rw [seq_if_no (by simp)]
        by_cases h1 : i < 1
        · exact seq_if_yes (by simp [h1]) (by simp)
        by_cases h2 : j < 1
        · exact seq_if_yes (by simp [h1, h2]) (by simp)
        have hmod : modD (.int j) (.int i) = some (.int (j % i)) := o_mod (by omega)
        have hm1 : mulD (.int i) (.int j) = some (.int (i * j)) := by
          cases tx with | int bi => cases ty with | int bj => exact mul_200 bi bj
        by_cases c1 : j % i = 0
        · by_cases c2 : i * j = (ptsM a b p).length
          · rw [seq_if_no (by simp [h1, h2, hmod, hm1, F_count_eq c, c1, c2])]
            cases hz : ptB a b p z with
            | false => exact seq_if_yes (by simp [is_point_tm c tz (by omega), hz]) (by simp)
            | true =>
              cases hw : ptB a b p w with
              | false => exact seq_if_yes (by simp [is_point_tm c tz (by omega), is_point_tm c tw (by omega), hz, hw]) (by simp)
              | true =>
                obtain ⟨P, hP, rfl⟩ := ptB_iff.mp hz
                obtain ⟨Q, hQ, rfl⟩ := ptB_iff.mp hw
                exact absurd ⟨i, j, P, Q, rfl, by omega, by omega, hP, hQ⟩ hg
          · exact seq_if_yes (by simp [h1, h2, hmod, hm1, F_count_eq c, c1, c2]) (by simp)
        · exact seq_if_yes (by simp [h1, h2, hmod, c1]) (by simp)
      · have iy : intB y = false := by cases y <;> first | rfl | exact absurd ⟨_, rfl⟩ hy
        exact seq_if_yes (by simp [is_whole_tm ty, iy]) (by simp)
    · have ix : intB x = false := by cases x <;> first | rfl | exact absurd ⟨_, rfl⟩ hx
      exact seq_if_yes (by simp [is_whole_tm tx, ix]) (by simp)
  · by_cases ht : ∃ ds, d = .tuple ds
    · obtain ⟨ds, rfl⟩ := ht
      have hl : ¬ (ds.length : Int) = 4 := by
        intro e
        match ds, (show ds.length = 4 by omega) with
        | [x, y, z, w], _ => exact h4 ⟨x, y, z, w, rfl⟩
      exact seq_if_yes (by simp [hl]) (by simp)
    · have tf : tupB d = false := by cases d <;> first | rfl | exact absurd ⟨_, rfl⟩ ht
      exact seq_if_yes (by simp [isTuple_tm hd, tf]) (by simp)
theorem shown_bad (c : Cv p a b) {k : Nat} {d : Dt} (hd : Tm k d) (hk : k ≤ 50) (hg : ¬ Good a b p d) : F_law_shown_k31 [.tuple [.int a, .int b], .int p, .list ((ptsM a b p).map tupI), d] = some (.bool false) := by
  have p1 := c.p1; have p0 := c.p0
  have hlen := pts_len (a := a) (b := b) (p := p) (by omega) p1
  refine run_rt rfl ?_
  show B_law_shown_k31 [vP a b, vI p, .val (.list ((ptsM a b p).map tupI)), .val d, .unk, .unk, .unk, .unk, .unk, .unk, .unk] = _
  unfold B_law_shown_k31
  by_cases h4 : ∃ x y z w, d = .tuple [x, y, z, w]
  · obtain ⟨x, y, z, w, rfl⟩ := h4
    obtain ⟨k, rfl⟩ : ∃ j, k = j + 1 := by cases hd; exact ⟨_, rfl⟩
    have tx := hd.mem (d := x) (by simp)
    have ty := hd.mem (d := y) (by simp)
    have tz := hd.mem (d := z) (by simp)
    have tw := hd.mem (d := w) (by simp)
    rw [seq_if_no (by simp)]
    have it1 : iSeq (slcF (getV 3) oNo (oSo (cst (.int 2)))) [vP a b, vI p, .val (.list ((ptsM a b p).map tupI)), .val (.tuple [x, y, z, w]), .unk, .unk, .unk, .unk, .unk, .unk, .unk] = some [x, y] := rfl
    have t1 := shown_turn3 tx (s0 := vP a b) (s1 := vI p) (s3 := .val (.tuple [x, y, z, w])) (s5 := .unk) (s6 := .unk) (s7 := .unk) (s8 := .unk) (s9 := .unk) (s10 := .unk) (ts := ptsM a b p)
    have t2 := shown_turn3 ty (s0 := vP a b) (s1 := vI p) (s3 := .val (.tuple [x, y, z, w])) (s5 := .unk) (s6 := .unk) (s7 := .unk) (s8 := .unk) (s9 := .unk) (s10 := .unk) (ts := ptsM a b p)
    cases hx : inR (ptsM a b p).length x with
    | false =>
      rw [hx] at t1
      exact seq_rt (by rw [r_sFor, it1, Option.bind_some, forL_rt rfl t1])
    | true =>
      rw [hx] at t1
      cases hy : inR (ptsM a b p).length y with
      | false =>
        rw [hy] at t2
        exact seq_rt (by rw [r_sFor, it1, Option.bind_some, forL_nx rfl t1, forL_rt rfl t2])
      | true =>
        rw [hy] at t2
        rw [seq_nx (ρ' := [vP a b, vI p, .val (.list ((ptsM a b p).map tupI)), .val (.tuple [x, y, z, w]), .val y, .unk, .unk, .unk, .unk, .unk, .unk]) (by
          rw [r_sFor, it1, Option.bind_some, forL_nx rfl t1, forL_nx rfl t2]
          rfl)]
        obtain ⟨i, rfl⟩ : ∃ i, x = .int i := by cases x <;> first | exact ⟨_, rfl⟩ | cases hx
        obtain ⟨j, rfl⟩ : ∃ i, y = .int i := by cases y <;> first | exact ⟨_, rfl⟩ | cases hy
        simp only [inR, Bool.and_eq_true, decide_eq_true_eq] at hx hy
        have u1 := shown_turn2 (a := a) (b := b) (p := p) tz (by omega) (s3 := .val (.tuple [.int i, .int j, z, w])) (s4 := vI j) (s6 := .unk) (s7 := .unk) (s8 := .unk) (s9 := .unk) (s10 := .unk) hlen
        have u2 := shown_turn2 (a := a) (b := b) (p := p) tw (by omega) (s3 := .val (.tuple [.int i, .int j, z, w])) (s4 := vI j) (s6 := .unk) (s7 := .unk) (s8 := .unk) (s9 := .unk) (s10 := .unk) hlen
        have it2 : iSeq (slcF (getV 3) (oSo (cst (.int 2))) oNo) [vP a b, vI p, .val (.list ((ptsM a b p).map tupI)), .val (.tuple [.int i, .int j, z, w]), vI j, .unk, .unk, .unk, .unk, .unk, .unk] = some [z, w] := rfl
        cases hz : ptB a b p z with
        | false =>
          rw [hz] at u1
          exact seq_rt (by rw [r_sFor, it2, Option.bind_some, forL_rt rfl u1])
        | true =>
          rw [hz] at u1
          cases hw : ptB a b p w with
          | false =>
            rw [hw] at u2
            exact seq_rt (by rw [r_sFor, it2, Option.bind_some, forL_nx rfl u1, forL_rt rfl u2])
          | true =>
            obtain ⟨P, hP, rfl⟩ := ptB_iff.mp hz
            obtain ⟨Q, hQ, rfl⟩ := ptB_iff.mp hw
            exact absurd ⟨i, j, P, Q, rfl, hx.1, hy.1, hP, hQ⟩ hg
  · by_cases ht : ∃ ds, d = .tuple ds
    · obtain ⟨ds, rfl⟩ := ht
      have hl : ¬ (ds.length : Int) = 4 := by
        intro e
        match ds, (show ds.length = 4 by omega) with
        | [x, y, z, w], _ => exact h4 ⟨x, y, z, w, rfl⟩
      exact seq_if_yes (by simp [hl]) (by simp)
    · have tf : tupB d = false := by cases d <;> first | rfl | exact absurd ⟨_, rfl⟩ ht
      exact seq_if_yes (by simp [isTuple_tm hd, tf]) (by simp)
theorem shown_same (G : Gr p a b m n g) (c : Cv p a b) {k : Nat} {d : Dt} (hd : Tm k d) (hk : k ≤ 50) : ∃ v, F_shows_form [.tuple [.int a, .int b], .int p, d] = some (.bool v) ∧ F_law_shown_k31 [.tuple [.int a, .int b], .int p, .list ((ptsM a b p).map tupI), d] = some (.bool v) := by
  by_cases hg : Good a b p d
  · obtain ⟨i, j, P, Q, rfl, hi, hj, hP, hQ⟩ := hg
    obtain ⟨k, rfl⟩ : ∃ j, k = j + 1 := by cases hd; exact ⟨_, rfl⟩
    have tx := hd.mem (d := .int i) (by simp)
    have ty := hd.mem (d := .int j) (by simp)
    cases tx with
    | int bi =>
      cases ty with
      | int bj => exact ⟨_, shows_good G c hi hj bi bj hP hQ, shown_good G c hi hj bi bj hP hQ⟩
  · exact ⟨false, shows_bad c hd hk hg, shown_bad c hd hk hg⟩
end
theorem si_pt {a b p : Int} (c : Cv p a b) {k : Nat} {R : List Int} (hR : R ∈ ptsM a b p) : Si (k + 1) (tupI R) := by
  have p1 := c.p1
  rcases mem_pts.mp hR with rfl | ⟨x, y, rfl, hx, hy, _⟩
  · exact .tuple (by simp) fun d hd => by cases hd
  · refine .tuple (by simp) fun d hd => ?_
    simp only [List.map_cons, List.map_nil, List.mem_cons, List.not_mem_nil, or_false] at hd
    rcases hd with rfl | rfl <;> exact .int (by omega)
@[simp] theorem o_eqB {v : Bool} : eqD (.bool v) (.bool v) = some (.bool true) := by
  unfold eqD; rw [sh_bool, Bool.and_self, if_pos rfl]; simp [PyData.eqv]
@[simp] theorem isBool_bool {v : Bool} : isBool (.bool v) = some (.bool true) := rfl
theorem law_k31_true (ns : List Int) (hl : ns.length ≤ 63) : F_law_k31 ns [] = some (.bool true) := by
  obtain ⟨p, hp, h1⟩ := size_of ns
  obtain ⟨a, b, c, h2⟩ := curve_of ns (k := 1) (by decide) (by decide) hp
  obtain ⟨m, n, g, G⟩ := group_of c
  have p0 := c.p0; have p1 := c.p1
  have hlen := pts_len (a := a) (b := b) (p := p) (by omega) p1
  have l63 := pts_63 c
  have m0 := G.m0; have n0 := G.n0; have card := G.card
  have n63 := G.n63 c
  have m63 : m < 64 := Int.lt_of_le_of_lt (Int.le_of_dvd n0 G.mn) n63
  obtain ⟨P, Q, f, hform⟩ := F_form_eq G c
  have si : Si 2 (.tuple [.int m, .int n, tupI P, tupI Q]) := .tuple (by simp) fun d hd => by
    simp only [List.mem_cons, List.not_mem_nil, or_false] at hd
    rcases hd with rfl | rfl | rfl | rfl
    · exact .int (by omega)
    · exact .int (by omega)
    · exact si_pt c f.mP
    · exact si_pt c f.mQ
  have hpos : (0 : Int) < (ptsM a b p).length := by have := List.length_pos_iff.mpr (pts_ne a b p); omega
  have q0 : ∀ z, modD (.int z) (.int (ptsM a b p).length) = some (.int (z % (ptsM a b p).length)) := fun z => o_mod hpos
  refine runS_rt rfl ?_
  show B_law_k31 [.scr ns, .unk, .unk, .unk, .unk, .unk, .unk, .unk, .unk, .unk] = _
  unfold B_law_k31
  rw [seq_set (h1 _)]
  simp only [List.set_cons_succ, List.set_cons_zero]
  rw [seq_set (h2 _)]
  simp only [List.set_cons_succ, List.set_cons_zero]
  rw [seq_set (d := .list ((ptsM a b p).map tupI)) (by simp [F_law_points_eq c])]
  simp only [List.set_cons_succ, List.set_cons_zero]
  rw [seq_set (d := .tuple [.int m, .int n, tupI P, tupI Q]) (by simp [hform])]
  simp only [List.set_cons_succ, List.set_cons_zero]
  rw [seq_set (d := .int (mixed ns 2)) (by simp [F_mixed (ns := ns) (k := 2) (by decide) (by decide)])]
  simp only [List.set_cons_succ, List.set_cons_zero]
  generalize mixed ns 2 = number
  refine seq_step (P := fun ρ => ∃ d, Tm 5 d ∧ ρ = [.scr ns, vI p, vP a b, .val (.list ((ptsM a b p).map tupI)), .val d, vI number, .unk, .unk, .unk, .unk] ∧ (number % 2 = 1 ∨ d = .tuple [.int m, .int n, tupI P, tupI Q])) (R := fun o => o = some (.rt (.bool true))) ?_ ?_
  · by_cases h : number % 2 = 1
    · have hd := md (number / 2) 3 (by decide)
      obtain ⟨r, e, t⟩ := spoilt_ok si (mixed ns 3) (deep := number / 2 % 3) (by omega)
      refine ⟨[.scr ns, vI p, vP a b, .val (.list ((ptsM a b p).map tupI)), .val r, vI number, .unk, .unk, .unk, .unk], ?_, r, t, rfl, .inl h⟩
      simp (disch := omega) [h, F_mixed (ns := ns) (k := 3) (by decide) (by decide), e]
    · exact ⟨_, by simp (disch := omega) [h], _, si.tm.le (by omega), rfl, .inr rfl⟩
  rintro _ ⟨d, td, rfl, hdd⟩
  refine seq_step (P := fun ρ => ∃ d s7 s8 s9, Tm 5 d ∧ ρ = [.scr ns, vI p, vP a b, .val (.list ((ptsM a b p).map tupI)), .val d, vI number, .unk, s7, s8, s9]) (R := fun o => o = some (.rt (.bool true))) ?_ ?_
  · by_cases h : number % 4 = 2
    · have e := hdd.resolve_left (by omega)
      subst e
      obtain ⟨R, hR, hRk⟩ := pick_of (pts_ne a b p) (number / 4)
      obtain ⟨S, hS, hSk⟩ := pick_of (pts_ne a b p) (number / 256)
      obtain ⟨r, hr, er⟩ := atI_mem (xs := [PyData.tuple [.int (ordM a p R), .int (ordM a p S), tupI R, tupI S], .tuple [.int 1, .int (ordM a p S), .tuple [], tupI S], .tuple [.int m, .int n, tupI R, tupI S]]) (m := number / 16384 % 3) (md _ _ (by decide)).1 (md (number / 16384) 3 (by decide)).2
      have oR := (G.ord c hR).2.1
      have oS := (G.ord c hS).2.1
      have tr : Tm 5 r := by
        have tR := (si_pt c (k := 0) hR).tm
        have tS := (si_pt c (k := 0) hS).tm
        simp only [List.mem_cons, List.not_mem_nil, or_false] at hr
        have big : ∀ {x y z w : Dt}, Tm 4 x → Tm 4 y → Tm 4 z → Tm 4 w → Tm 5 (.tuple [x, y, z, w]) := fun hx hy hz hw => .tuple fun d hd => by
          simp only [List.mem_cons, List.not_mem_nil, or_false] at hd
          rcases hd with rfl | rfl | rfl | rfl <;> assumption
        rcases hr with rfl | rfl | rfl
        · exact big (.int (b200 (by omega))) (.int (b200 (by omega))) (tR.le (by omega)) (tS.le (by omega))
        · exact big (.int (b200 (by decide))) (.int (b200 (by omega))) (.tuple fun d hd => by cases hd) (tS.le (by omega))
        · exact big (.int (b200 (by omega))) (.int (b200 (by omega))) (tR.le (by omega)) (tS.le (by omega))
      refine ⟨[.scr ns, vI p, vP a b, .val (.list ((ptsM a b p).map tupI)), .val r, vI number, .unk, .val (tupI R), .val (tupI S), .val (.list [.int (ordM a p R), .int (ordM a p S)])], ?_, r, _, _, _, tr, rfl⟩
      rw [r_sIf]
      have ht : tB' (e2 eqD (e2 modD (getV 5) (cst (.int 4))) (cst (.int 2))) [.scr ns, vI p, vP a b, .val (.list ((ptsM a b p).map tupI)), .val (.tuple [.int m, .int n, tupI P, tupI Q]), vI number, .unk, .unk, .unk, .unk] = some true := by
        simp (disch := omega) [h]
      rw [ht, Option.bind_some, if_pos rfl]
      rw [seq_set (d := tupI R) (by simp (disch := omega) [q0, hRk])]
      simp only [List.set_cons_succ, List.set_cons_zero]
      rw [seq_set (d := tupI S) (by simp (disch := omega) [q0, hSk])]
      simp only [List.set_cons_succ, List.set_cons_zero]
      rw [seq_set (d := .list [.int (ordM a p R), .int (ordM a p S)]) (by simp [F_often_eq G c hR, F_often_eq G c hS, often_len])]
      simp only [List.set_cons_succ, List.set_cons_zero]
      rw [seq_set (d := .tuple [PyData.tuple [.int (ordM a p R), .int (ordM a p S), tupI R, tupI S], .tuple [.int 1, .int (ordM a p S), .tuple [], tupI S], .tuple [.int m, .int n, tupI R, tupI S]]) (by
        have four : ∀ (x y z w : EF) (ρ : Dn) (x' y' z' w' : Dt), x ρ = some x' → y ρ = some y' → z ρ = some z' → w ρ = some w' → mkTup (aCons x (aCons y (aCons z (aCons w aNil)))) ρ = some (.tuple [x', y', z', w']) := by
          intro x y z w ρ x' y' z' w' h1 h2 h3 h4
          unfold mkTup
          simp only [r_aCons, h1, h2, h3, h4, Option.bind_some, r_aNil, Option.map_some]
          rfl
        rw [r_mkTup3, four _ _ _ _ _ (.int (ordM a p R)) (.int (ordM a p S)) (tupI R) (tupI S) (by simp) (by simp) (by simp) (by simp), four _ _ _ _ _ (.int 1) (.int (ordM a p S)) (.tuple []) (tupI S) (by simp) (by simp) (by simp) (by simp), four _ _ _ _ _ (.int m) (.int n) (tupI R) (tupI S) (by simp) (by simp) (by simp) (by simp)]
        rfl)]
      simp only [List.set_cons_succ, List.set_cons_zero]
      clear hr
      generalize [PyData.tuple [.int (ordM a p R), .int (ordM a p S), tupI R, tupI S], .tuple [.int 1, .int (ordM a p S), .tuple [], tupI S], .tuple [.int m, .int n, tupI R, tupI S]] = xs at er
      simp (disch := omega) [er]
    · exact ⟨_, by simp (disch := omega) [h], d, .unk, .unk, .unk, td, rfl⟩
  rintro _ ⟨d, s7, s8, s9, td, rfl⟩
  obtain ⟨v, e1, e2⟩ := shown_same G c td (by omega)
  rw [seq_set (d := .bool v) (by simp [e1])]
  simp only [List.set_cons_succ, List.set_cons_zero]
  simp [e2]
end Pf

-- part Lm28
set_option maxHeartbeats 1000000
namespace Pf
open PySem Cc L2
/-! ### primes -/
def divsN (n : Nat) : List Nat := ((List.range (n - 1)).map (2 + ·)).filter fun q => Nat.beq (n % q) 0
def noLess (ds : List Nat) (q : Nat) : Bool := (ds.filter fun l => Nat.blt l q && Nat.beq (q % l) 0).isEmpty
def primesN (n : Nat) : List Nat := (fun ds => ds.filter (noLess ds)) (divsN n)
def primesM (n : Nat) : List Int := (primesN n).map fun q : Nat => (q : Int)
theorem primesM_t (n : Nat) : tupI (primesM n) = .tuple ((primesN n).map fun q : Nat => PyData.int (q : Nat)) := by
  unfold tupI primesM
  rw [List.map_map]
  rfl
theorem it_rng2 {f h : EF} {ρ : Dn} {k : Nat} (hk : k < 1000000) (hk1 : 1 ≤ k) (h1 : f ρ = some (.int 2)) (h2 : h ρ = some (.int ((k : Int) + 1))) : iF rng2D (aCons f (aCons h aNil)) ρ = some (((List.range (k - 1)).map (2 + ·)).map fun q : Nat => PyData.int (q : Nat)) := by
  rw [r_iF, r_aCons, h1, Option.bind_some, r_aCons, h2, Option.bind_some, r_aNil, Option.map_some, Option.map_some, Option.bind_some, o_rng2 (by omega), show ((k : Int) + 1 - 2).toNat = k - 1 by omega, List.map_map]
  congr 1
theorem mem_divs {n q : Nat} (h : q ∈ divsN n) : 2 ≤ q ∧ q ≤ n := by
  obtain ⟨h, _⟩ := List.mem_filter.mp h
  obtain ⟨i, hi, rfl⟩ := List.mem_map.mp h
  have := List.mem_range.mp hi
  omega
theorem mem_primes {n q : Nat} (h : q ∈ primesN n) : 2 ≤ q ∧ q ≤ n := mem_divs (List.mem_filter.mp h).1
theorem divs_len (n : Nat) : (divsN n).length ≤ n := by
  refine Nat.le_trans (List.length_filter_le ..) ?_
  rw [List.length_map, List.length_range]; omega
theorem decN {x y : Nat} : decide ((x : Int) = (y : Int)) = Nat.beq x y := by
  by_cases h : x = y
  · subst h; simp [nb_t]
  · rw [nb_f h, decide_eq_false_iff_not]; omega
theorem decL {x y : Nat} : decide ((x : Int) < (y : Int)) = Nat.blt x y := by
  cases h : Nat.blt x y
  · rw [decide_eq_false_iff_not]
    intro q
    have : Nat.blt x y = true := Nat.ble_eq_true_of_le (by omega : x + 1 ≤ y)
    rw [h] at this; cases this
  · have := nlt h
    rw [decide_eq_true_eq]; omega
theorem eq_listI0 {s : List Int} : eqD (.list (s.map .int)) (.list []) = some (.bool s.isEmpty) := by
  unfold eqD
  rw [sh_listI, sh_nil, Bool.and_self, if_pos rfl]
  cases s <;> simp [PyData.eqv, PyData.eqvAll]
theorem F_law_primes_eq {n : Nat} (h1 : 1 ≤ n) (hn : n ≤ 1000) : F_law_primes [.int n] = some (tupI (primesM n)) := by
  refine run_rt rfl ?_
  show B_law_primes [vI n, .unk, .unk, .unk] = _
  unfold B_law_primes
  have it : iF rng2D (aCons (cst (.int 2)) (aCons (e2 addD (getV 0) (cst (.int 1))) aNil)) [vI n, .unk, .unk, .unk] = some (((List.range (n - 1)).map (2 + ·)).map fun q : Nat => PyData.int (q : Nat)) := by
    exact it_rng2 (by omega) h1 (by simp) (by simp)
  have lc1 : lcF (iF rng2D (aCons (cst (.int 2)) (aCons (e2 addD (getV 0) (cst (.int 1))) aNil))) [2] (gSet 2) T_law_primes_3 E_law_primes_3 [vI n, .unk, .unk, .unk] = some ((divsN n).map fun q : Nat => PyData.int (q : Nat)) := by
    rw [r_lcF, it, Option.bind_some, if_pos (by simp; omega), lcL_filter (f := fun q : Nat => PyData.int (q : Nat)) (fun q => Nat.beq (n % q) 0) (fun q : Nat => PyData.int (q : Nat)) _ fun q hq => ⟨_, rfl, ?_, fun _ => by simp [E_law_primes_3, wipeD]⟩]
    · rfl
    · obtain ⟨i, hi, rfl⟩ := List.mem_map.mp hq
      have e : ((n : Int) % ((2 + i : Nat) : Int)) = ((n % (2 + i) : Nat) : Int) := cast_mod rfl
      have om : modD (.int n) (.int ((2 + i : Nat) : Int)) = some (.int ((n % (2 + i) : Nat) : Int)) := by rw [o_mod (by omega), e]
      have d0 : decide (((n % (2 + i) : Nat) : Int) = 0) = Nat.beq (n % (2 + i)) 0 := decN (y := 0)
      simp only [T_law_primes_3, wipeD, r_tB, r_e2, r_getV, List.set_cons_succ, List.set_cons_zero, nthS, nth0, r_slV, Option.bind_some, om, r_cst, o_eqI, r_asB, d0]
  rw [seq_set (d := .list ((divsN n).map fun q : Nat => PyData.int (q : Nat))) (by rw [r_lstF, lc1]; rfl)]
  simp only [List.set_cons_succ, List.set_cons_zero]
  have dl := divs_len n
  have lc2 : lcF (iSeq (getV 1)) [2] (gSet 2) T_law_primes_2 E_law_primes_2 [vI n, .val (.list ((divsN n).map fun q : Nat => PyData.int (q : Nat))), .unk, .unk] = some ((primesN n).map fun q : Nat => PyData.int (q : Nat)) := by
    have it2 : iSeq (getV 1) [vI n, .val (.list ((divsN n).map fun q : Nat => PyData.int (q : Nat))), .unk, .unk] = some ((divsN n).map fun q : Nat => PyData.int (q : Nat)) := rfl
    rw [r_lcF, it2, Option.bind_some, if_pos (by rw [List.length_map]; omega), lcL_filter (f := fun q : Nat => PyData.int (q : Nat)) (noLess (divsN n)) (fun q : Nat => PyData.int (q : Nat)) _ fun q hq => ⟨_, rfl, ?_, fun _ => by simp [E_law_primes_2, wipeD]⟩]
    · rfl
    · have hq := mem_divs hq
      have lc3 : lcF (iSeq (getV 1)) [3] (gSet 3) T_law_primes_1 E_law_primes_1 [vI n, .val (.list ((divsN n).map fun q : Nat => PyData.int (q : Nat))), vI q, .unk] = some (((divsN n).filter fun l => Nat.blt l q && Nat.beq (q % l) 0).map fun q : Nat => PyData.int (q : Nat)) := by
        have it3 : iSeq (getV 1) [vI n, .val (.list ((divsN n).map fun q : Nat => PyData.int (q : Nat))), vI q, .unk] = some ((divsN n).map fun q : Nat => PyData.int (q : Nat)) := rfl
        rw [r_lcF, it3, Option.bind_some, if_pos (by rw [List.length_map]; omega), lcL_filter (f := fun q : Nat => PyData.int (q : Nat)) (fun l => Nat.blt l q && Nat.beq (q % l) 0) (fun q : Nat => PyData.int (q : Nat)) _ fun l hl => ⟨_, rfl, ?_, fun _ => by simp [E_law_primes_1, wipeD]⟩]
        have hl := mem_divs hl
        have e : ((q : Int) % (l : Int)) = ((q % l : Nat) : Int) := cast_mod rfl
        have om : modD (.int q) (.int l) = some (.int ((q % l : Nat) : Int)) := by rw [o_mod (by omega), e]
        have d0 : decide (((q % l : Nat) : Int) = 0) = Nat.beq (q % l) 0 := decN (y := 0)
        have dl : decide ((l : Int) < q) = Nat.blt l q := decL
        simp only [T_law_primes_1, wipeD, r_tAn, r_tB, r_e2, r_getV, List.set_cons_succ, List.set_cons_zero, nthS, nth0, r_slV, Option.bind_some, om, r_cst, o_eqI, r_asB, d0, o_lt, dl]
        cases Nat.blt l q <;> simp
      have em : ((divsN n).filter fun l => Nat.blt l q && Nat.beq (q % l) 0).map (fun q : Nat => PyData.int (q : Nat)) = (((divsN n).filter fun l => Nat.blt l q && Nat.beq (q % l) 0).map fun q : Nat => (q : Int)).map .int := by rw [List.map_map]; rfl
      simp only [T_law_primes_2, wipeD, List.set_cons_succ, List.set_cons_zero]
      rw [r_tB, r_e2, r_lstF, lc3, em]
      simp only [Option.map_some, Option.bind_some, r_mkLst0, eq_listI0, r_asB]
      rw [noLess]
      simp
  rw [r_sRet, r_callF, r_aCons, r_lstF, lc2, primesM_t]
  simp only [Option.map_some, Option.bind_some, r_aNil, o_tupL]
/-! ### the program's own -/
def divOut : Nat → Nat → Nat → Nat
  | 0, l, _ => l
  | f + 1, l, p => cond (Nat.beq (l % p) 0) (divOut f (l / p) p) l
def pfO : Nat → Nat → Nat → List Nat → Option (List Nat)
  | 0, _, _, _ => none
  | f + 1, l, p, acc => cond (Nat.blt 1 l) (cond (Nat.beq (l % p) 0) (pfO f (divOut 400 l p) (p + 1) (acc ++ [p])) (pfO f l (p + 1) acc)) (some acc)
theorem divOut_pos : ∀ (f l p : Nat), 1 ≤ l → 2 ≤ p → 1 ≤ divOut f l p ∧ divOut f l p ≤ l
  | 0, l, p, h, _ => ⟨h, Nat.le_refl _⟩
  | f + 1, l, p, h, h2 => by
    unfold divOut
    cases e : Nat.beq (l % p) 0
    · exact ⟨h, Nat.le_refl _⟩
    · have e := nbt e
      have h3 : 1 ≤ l / p := by
        have := Nat.div_add_mod l p
        rcases Nat.eq_zero_or_pos (l / p) with q | q
        · rw [q, e] at this; omega
        · exact q
      have := divOut_pos f (l / p) p h3 h2
      have := Nat.div_le_self l p
      rw [cond_true]; omega
theorem inner_loop {s0 s1 : Sl} : ∀ (f l p : Nat), 1 ≤ l → 2 ≤ p → p < 100000 → l < 2 ^ f → whileL W_primes_of_1 L_primes_of_1 (f + 1) [s0, s1, vI l, vI p] = some (.nx [s0, s1, vI (divOut (f + 1) l p), vI p])
  | f, l, p, h1, h2, hp, hl => by
    have om : modD (.int l) (.int p) = some (.int ((l % p : Nat) : Int)) := by rw [o_mod (by omega), show ((l : Int) % (p : Int)) = ((l % p : Nat) : Int) from cast_mod rfl]
    have d0 : decide (((l % p : Nat) : Int) = 0) = Nat.beq (l % p) 0 := decN (y := 0)
    have hW : W_primes_of_1 [s0, s1, vI l, vI p] = some (Nat.beq (l % p) 0) := by
      simp only [W_primes_of_1, r_tB, r_e2, r_getV, nthS, nth0, r_slV, Option.bind_some, om, r_cst, o_eqI, r_asB, d0]
    unfold divOut
    cases e : Nat.beq (l % p) 0
    · rw [e] at hW
      rw [while_end hW, cond_false]
    · rw [e] at hW
      have e' := nbt e
      have h3 : 1 ≤ l / p := by
        have := Nat.div_add_mod l p
        rcases Nat.eq_zero_or_pos (l / p) with q | q
        · rw [q, e'] at this; omega
        · exact q
      have hB : L_primes_of_1 [s0, s1, vI l, vI p] = some (.nx [s0, s1, vI ((l / p : Nat) : Int), vI p]) := by
        have : fdivD (.int l) (.int p) = some (.int ((l / p : Nat) : Int)) := o_fdiv (by omega)
        simp [L_primes_of_1, this]
      rw [while_step hW hB, cond_true]
      cases f with
      | zero =>
        have : l = 1 := by omega
        subst this
        rw [Nat.mod_eq_of_lt (by omega)] at e'
        cases e'
      | succ f =>
        refine inner_loop f (l / p) p h3 h2 hp ?_
        have : l / p ≤ l / 2 := Nat.div_le_div_left h2 (by decide)
        have : 2 ^ (f + 1) = 2 * 2 ^ f := by rw [Nat.pow_succ, Nat.mul_comm]
        omega
theorem outer_loop {s0 : Sl} : ∀ (f l p : Nat) (acc r : List Nat), 1 ≤ l → l < 100000 → 2 ≤ p → p + f ≤ 1000 → acc.length + f ≤ 1000 → pfO f l p acc = some r → ∃ s2 s3, whileL W_primes_of_2 L_primes_of_2 f [s0, .own (acc.map fun q : Nat => PyData.int (q : Nat)), vI l, vI p] = some (.nx [s0, .own (r.map fun q : Nat => PyData.int (q : Nat)), s2, s3])
  | 0, _, _, _, _, _, _, _, _, _, h => by cases h
  | f + 1, l, p, acc, r, h1, hl, h2, hp, ha, h => by
    have om : modD (.int l) (.int p) = some (.int ((l % p : Nat) : Int)) := by rw [o_mod (by omega), show ((l : Int) % (p : Int)) = ((l % p : Nat) : Int) from cast_mod rfl]
    have hW : W_primes_of_2 [s0, .own (acc.map fun q : Nat => PyData.int (q : Nat)), vI l, vI p] = some (Nat.blt 1 l) := by
      have : decide ((1 : Int) < (l : Int)) = Nat.blt 1 l := decL (x := 1)
      simp only [W_primes_of_2, r_tB, r_e2, r_getV, nthS, nth0, r_slV, Option.bind_some, r_cst, o_gt, r_asB, this]
    unfold pfO at h
    cases e : Nat.blt 1 l
    · rw [e] at hW h
      cases h
      exact ⟨vI l, vI p, while_end hW⟩
    · rw [e] at hW h
      rw [cond_true] at h
      have d0 : decide (((l % p : Nat) : Int) = 0) = Nat.beq (l % p) 0 := decN (y := 0)
      cases z2 : Nat.beq (l % p) 0
      · rw [z2, cond_false] at h
        rw [z2] at d0
        have hB : L_primes_of_2 [s0, .own (acc.map fun q : Nat => PyData.int (q : Nat)), vI l, vI p] = some (.nx [s0, .own (acc.map fun q : Nat => PyData.int (q : Nat)), vI l, vI ((p + 1 : Nat) : Int)]) := by
          unfold L_primes_of_2
          rw [seq_if_no (by simp only [r_tB, r_e2, r_getV, nthS, nth0, r_slV, Option.bind_some, om, r_cst, o_eqI, r_asB, d0])]
          have il : whileL W_primes_of_1 L_primes_of_1 400 _ = _ := inner_loop (s0 := s0) (s1 := .own (acc.map fun q : Nat => PyData.int (q : Nat))) 399 l p h1 h2 (by omega) (Nat.lt_of_lt_of_le hl (by decide +kernel))
          have e3 : divOut (399 + 1) l p = l := by unfold divOut; rw [z2]; rfl
          rw [e3] at il
          rw [seq_nx il]
          simp
        rw [while_step hW hB]
        exact outer_loop f l (p + 1) acc r h1 hl (by omega) (by omega) (by omega) h
      · rw [z2, cond_true] at h
        rw [z2] at d0
        have dp := divOut_pos 400 l p h1 h2
        have hB : L_primes_of_2 [s0, .own (acc.map fun q : Nat => PyData.int (q : Nat)), vI l, vI p] = some (.nx [s0, .own ((acc ++ [p]).map fun q : Nat => PyData.int (q : Nat)), vI (divOut 400 l p), vI ((p + 1 : Nat) : Int)]) := by
          unfold L_primes_of_2
          have st : (sIf (tB' (e2 eqD (e2 modD (getV 2) (getV 3)) (cst (.int 0)))) (sApp 1 (getV 3)) sNil) [s0, .own (acc.map fun q : Nat => PyData.int (q : Nat)), vI l, vI p] = some (.nx [s0, .own ((acc ++ [p]).map fun q : Nat => PyData.int (q : Nat)), vI l, vI p]) := by
            have ht : tB' (e2 eqD (e2 modD (getV 2) (getV 3)) (cst (.int 0))) [s0, .own (acc.map fun q : Nat => PyData.int (q : Nat)), vI l, vI p] = some true := by
              simp only [r_tB, r_e2, r_getV, nthS, nth0, r_slV, Option.bind_some, om, r_cst, o_eqI, r_asB, d0]
            rw [r_sIf, ht, Option.bind_some, if_pos rfl, r_sApp]
            simp only [nthS, nth0, r_getV, r_slV, Option.bind_some]
            rw [if_pos (by rw [List.length_map]; omega), List.map_append]
            rfl
          rw [seq_nx st]
          have il : whileL W_primes_of_1 L_primes_of_1 400 _ = _ := inner_loop (s0 := s0) (s1 := .own ((acc ++ [p]).map fun q : Nat => PyData.int (q : Nat))) 399 l p h1 h2 (by omega) (Nat.lt_of_lt_of_le hl (by decide +kernel))
          rw [seq_nx il]
          simp
        rw [while_step hW hB]
        exact outer_loop f _ (p + 1) _ r dp.1 (by omega) (by omega) (by omega) (by simp; omega) h
theorem pf_ok : ((List.range 310).all fun n => match pfO 400 (n + 1) 2 [] with | some r => r == primesN (n + 1) | none => false) = true := by decide +kernel
theorem F_primes_of_eq {n : Nat} (h1 : 1 ≤ n) (hn : n ≤ 310) : F_primes_of [.int n] = some (tupI (primesM n)) := by
  have h := List.all_eq_true.mp pf_ok (n - 1) (List.mem_range.mpr (by omega))
  rw [show n - 1 + 1 = n by omega] at h
  cases e : pfO 400 n 2 [] with
  | none => rw [e] at h; cases h
  | some r =>
    rw [e] at h
    have hr : r = primesN n := by simpa using h
    subst hr
    obtain ⟨s2, s3, hw⟩ := outer_loop (s0 := vI n) 400 n 2 [] (primesN n) h1 (by omega) (by decide) (by decide) (by decide) e
    refine run_rt rfl ?_
    show B_primes_of [vI n, .unk, .unk, .unk] = _
    unfold B_primes_of
    rw [seq_nx (by rw [r_sSetO, r_lim0]; rfl)]
    simp only [List.set_cons_succ, List.set_cons_zero]
    rw [seq_set (d := .int n) (by simp)]
    simp only [List.set_cons_succ, List.set_cons_zero]
    rw [seq_set (d := .int 2) (by simp)]
    simp only [List.set_cons_succ, List.set_cons_zero]
    have hw : whileL W_primes_of_2 L_primes_of_2 400 [vI n, .own [], vI n, vI 2] = some (.nx [vI n, .own ((primesN n).map fun q : Nat => PyData.int (q : Nat)), s2, s3]) := hw
    rw [seq_nx hw]
    rw [primesM_t]
    simp only [r_sRet, r_callF, r_aCons, r_getW, nthS, nth0, r_slWo, Option.bind_some, r_aNil, Option.map_some, o_tupL]
/-- a paper is one of its number alone -/
def papOk (n o : Nat) (ps : List Nat) : Bool := (Nat.beq (n % o) 0 && ps.all fun q => !Nat.beq (n / q % o) 0) == Nat.beq n o
theorem pap_ok : ((List.range 310).all fun n => (fun ps => (List.range 63).all fun o => papOk (n + 1) (o + 1) ps) (primesN (n + 1))) = true := by decide +kernel
theorem pap_of {n o : Nat} (h1 : 1 ≤ n) (hn : n ≤ 310) (h2 : 1 ≤ o) (ho : o ≤ 63) : (Nat.beq (n % o) 0 && (primesN n).all fun q => !Nat.beq (n / q % o) 0) = Nat.beq n o := by
  have h := List.all_eq_true.mp (List.all_eq_true.mp pap_ok (n - 1) (List.mem_range.mpr (by omega))) (o - 1) (List.mem_range.mpr (by omega))
  rw [show n - 1 + 1 = n by omega, show o - 1 + 1 = o by omega] at h
  unfold papOk at h
  simpa using h
end Pf

-- part M21
set_option maxHeartbeats 1000000
namespace Pf
open PySem Cc L2
theorem eqvAll_nobool2 : ∀ {t : List Int} {ds : List Dt}, PyData.eqvAll ds (t.map .int) = true → ds.all (fun d => !boolB d) = true → ds = t.map .int
  | [], [], _, _ => rfl
  | [], _ :: _, h, _ => by simp [PyData.eqvAll] at h
  | _ :: _, [], h, _ => by simp [PyData.eqvAll] at h
  | i :: t, d :: ds, h, hb => by
    rw [List.map_cons, PyData.eqvAll, Bool.and_eq_true] at h
    rw [List.all_cons, Bool.and_eq_true] at hb
    rw [eqvAll_nobool2 h.2 hb.2, List.map_cons]
    congr 1
    have h1 := h.1
    have h2 := hb.1
    cases d <;> first
      | (simp [boolB] at h2; done)
      | (simp [PyData.eqv] at h1; done)
      | (simp only [PyData.eqv, beq_iff_eq] at h1; rw [h1])
theorem ints_of : ∀ {ds : List Dt}, ds.all intB = true → ∃ ts : List Int, ds = ts.map .int
  | [], _ => ⟨[], rfl⟩
  | d :: ds, h => by
    rw [List.all_cons, Bool.and_eq_true] at h
    obtain ⟨ts, rfl⟩ := ints_of h.2
    have h1 := h.1
    cases d <;> first
      | (cases h1; done)
      | exact ⟨_ :: ts, rfl⟩
/-- the paper -/
def papD (o : Nat) : Dt := .tuple [.int o, tupI (primesM o)]
section
variable {p a b m n : Int} {g : Int → Int → List Int}
theorem ord_small (G : Gr p a b m n g) (c : Cv p a b) {P : List Int} (hP : P ∈ ptsM a b p) : ordM a p P ≤ 63 ∧ (ordM a p P : Int) ≤ 10 * p := by
  have p0 := c.p0
  obtain ⟨o0, o1, _, _⟩ := G.ord c hP
  refine ⟨by omega, ?_⟩
  have card := G.card
  have m0 := G.m0; have n0 := G.n0
  have d1 := Int.le_of_dvd n0 (G.ord_n c hP)
  have d2 : 1 * n ≤ m * n := Int.mul_le_mul_of_nonneg_right (by omega) (by omega)
  have hh := Gr.hasse c _ rfl
  rcases Int.lt_or_le (10 * p) (ordM a p P : Int) with h | h
  · have e1 : 9 * p - 1 ≤ ((ptsM a b p).length : Int) - p - 1 := by omega
    have e2 : (9 * p - 1) * (9 * p - 1) ≤ (((ptsM a b p).length : Int) - p - 1) * (((ptsM a b p).length : Int) - p - 1) := Int.mul_le_mul e1 e1 (by omega) (by omega)
    have e3 : 44 * (9 * p - 1) ≤ (9 * p - 1) * (9 * p - 1) := Int.mul_le_mul_of_nonneg_right (by omega) (by omega)
    omega
  · exact h
theorem shows_is (G : Gr p a b m n g) (c : Cv p a b) {P : List Int} (hP : P ∈ ptsM a b p) {k : Nat} {d : Dt} (hd : Tm k d) (hk : k ≤ 50) (hl : ∀ x ds, d = .tuple [x, .tuple ds] → ds.length ≤ 1000) :
    (d = papD (ordM a p P) ∧ F_shows_order [.tuple [.int a, .int b], .int p, tupI P, d] = some (.bool true)) ∨ (d ≠ papD (ordM a p P) ∧ F_shows_order [.tuple [.int a, .int b], .int p, tupI P, d] = some (.bool false)) := by
  have p0 := c.p0; have p1 := c.p1
  obtain ⟨o0, _, _, _⟩ := G.ord c hP
  obtain ⟨o63, o10⟩ := ord_small G c hP
  have run : ∀ v, B_shows_order [vP a b, vI p, .val (tupI P), .val d, .unk] = some (.rt (.bool v)) → F_shows_order [.tuple [.int a, .int b], .int p, tupI P, d] = some (.bool v) := fun v h => run_rt rfl h
  by_cases h2 : ∃ x y, d = .tuple [x, y]
  · obtain ⟨x, y, rfl⟩ := h2
    obtain ⟨k, rfl⟩ : ∃ j, k = j + 1 := by cases hd; exact ⟨_, rfl⟩
    have tx := hd.mem (d := x) (by simp)
    have ty := hd.mem (d := y) (by simp)
    by_cases hx : ∃ i, x = .int i
    · obtain ⟨i, rfl⟩ := hx
      by_cases hy : ∃ ds, y = .tuple ds
      · obtain ⟨ds, rfl⟩ := hy
        obtain ⟨k, rfl⟩ : ∃ j, k = j + 1 := by cases ty; exact ⟨_, rfl⟩
        have hl := hl _ _ rfl
        have m10 : mulD (.int 10) (.int p) = some (.int (10 * p)) := o_mul (.inl (by decide))
        have start : ∀ {r}, (sSeq (sIf (tOrr (tNt (tB' (vChn leD leD (cst (.int 1)) (e2 ixD (getV 3) (cst (.int 0))) (e2 mulD (cst (.int 10)) (getV 1))))) (tNt (tB' (callF allD (aCons (lstF (lcF (iSeq (e2 ixD (getV 3) (cst (.int 1)))) [4] (gSet 4) tYesD Pf.E_shows_order_2)) aNil)))))
            (sRet (cst (.bool false))) sNil)
            (sSeq (sIf (tOrr (tB' (e2 neD (e2 ixD (getV 3) (cst (.int 1))) (callF Pf.F_primes_of (aCons (e2 ixD (getV 3) (cst (.int 0))) aNil)))) (tB' (e2 neD (callF Pf.F_times (aCons (getV 0) (aCons (getV 1) (aCons (e2 ixD (getV 3) (cst (.int 0))) (aCons (getV 2) aNil))))) (mkTup aNil))))
            (sRet (cst (.bool false))) sNil)
            (sRet (callF allD (aCons (lstF (lcF (iSeq (e2 ixD (getV 3) (cst (.int 1)))) [4] (gSet 4) tYesD Pf.E_shows_order_1)) aNil)))) : SF) [vP a b, vI p, .val (tupI P), .val (.tuple [.int i, .tuple ds]), .unk] = r → B_shows_order [vP a b, vI p, .val (tupI P), .val (.tuple [.int i, .tuple ds]), .unk] = r := fun h => by
          unfold B_shows_order
          rw [seq_if_no (by simp)]
          exact h
        by_cases c1 : 1 ≤ i
        · by_cases c2 : i ≤ 10 * p
          · have al := all_lc (ds := ds) (i := 4) (f := e2 ixD (getV 3) (cst (.int 1))) (e := E_shows_order_2) (ρ := [vP a b, vI p, .val (tupI P), .val (.tuple [.int i, .tuple ds]), .unk]) (v := intB) (by simp) hl (by
              intro z hz
              simp [E_shows_order_2, wipeD, is_whole_tm (ty.mem hz)])
            cases hi : ds.all intB with
            | false =>
              right
              rw [hi] at al
              refine ⟨?_, run _ (start (seq_if_yes ?_ (by simp)))⟩
              · intro e
                unfold papD tupI at e
                have e := (List.cons.inj (PyData.tuple.inj e)).2
                have e := PyData.tuple.inj (List.cons.inj e).1
                rw [e, List.all_map] at hi
                have : (primesM (ordM a p P)).all (intB ∘ PyData.int) = true := List.all_eq_true.mpr fun x _ => rfl
                rw [this] at hi; cases hi
              · rw [r_tOr, r_tNt, r_tB, r_tNt, r_tB, al]
                simp [m10, c1, c2]
            | true =>
              rw [hi] at al
              obtain ⟨ts, rfl⟩ := ints_of hi
              obtain ⟨i, rfl⟩ := Int.eq_ofNat_of_zero_le (show 0 ≤ i by omega)
              have hf := F_primes_of_eq (n := i) (by omega) (by omega)
              have tm := F_times_eq G c (k := (i : Int)) (big64 (by omega)) hP
              have st2 : ∀ {r}, (sSeq (sIf (tOrr (tB' (e2 neD (e2 ixD (getV 3) (cst (.int 1))) (callF Pf.F_primes_of (aCons (e2 ixD (getV 3) (cst (.int 0))) aNil)))) (tB' (e2 neD (callF Pf.F_times (aCons (getV 0) (aCons (getV 1) (aCons (e2 ixD (getV 3) (cst (.int 0))) (aCons (getV 2) aNil))))) (mkTup aNil))))
                (sRet (cst (.bool false))) sNil)
                (sRet (callF allD (aCons (lstF (lcF (iSeq (e2 ixD (getV 3) (cst (.int 1)))) [4] (gSet 4) tYesD Pf.E_shows_order_1)) aNil))) : SF) [vP a b, vI p, .val (tupI P), .val (.tuple [.int (i : Int), tupI ts]), .unk] = r → B_shows_order [vP a b, vI p, .val (tupI P), .val (.tuple [.int (i : Int), .tuple (ts.map .int)]), .unk] = r := fun h => start (by
                  rw [seq_if_no (by
                    rw [r_tOr, r_tNt, r_tB, r_tNt, r_tB, al]
                    simp [m10, c1, c2])]
                  exact h)
              have pe : ∀ ts : List Int, (PyData.tuple [.int (i : Int), tupI ts] = papD (ordM a p P)) ↔ i = ordM a p P ∧ ts = primesM (ordM a p P) := by
                intro ts
                unfold papD tupI
                constructor
                · intro e
                  have e := PyData.tuple.inj e
                  have e1 := PyData.int.inj (List.cons.inj e).1
                  have e2 := PyData.tuple.inj (List.cons.inj (List.cons.inj e).2).1
                  refine ⟨by omega, ?_⟩
                  have inj : ∀ s t : List Int, s.map PyData.int = t.map PyData.int → s = t := by
                    intro s
                    induction s with
                    | nil => intro t h; cases t <;> first | rfl | cases h
                    | cons x s ih =>
                      intro t h
                      cases t with
                      | nil => cases h
                      | cons y t =>
                        rw [List.map_cons, List.map_cons] at h
                        rw [PyData.int.inj (List.cons.inj h).1, ih t (List.cons.inj h).2]
                  exact inj _ _ e2
                · rintro ⟨rfl, rfl⟩; rfl
              by_cases c3 : ts = primesM i
              · subst c3
                by_cases c4 : mulZ a p i P = []
                · have c4' := (G.ord_iff c hP i).mp c4
                  have c4n : i % ordM a p P = 0 := by
                    have := Int.emod_eq_zero_of_dvd c4'
                    rw [show ((i : Int) % (ordM a p P : Int)) = ((i % ordM a p P : Nat) : Int) from cast_mod rfl] at this
                    omega
                  have fin : callF allD (aCons (lstF (lcF (iSeq (e2 ixD (getV 3) (cst (.int 1)))) [4] (gSet 4) tYesD Pf.E_shows_order_1)) aNil) [vP a b, vI p, .val (tupI P), .val (.tuple [.int (i : Int), tupI (primesM i)]), .unk] = some (.bool ((primesN i).all fun q => !Nat.beq (i / q % ordM a p P) 0)) := by
                    have e : lcF (iSeq (e2 ixD (getV 3) (cst (.int 1)))) [4] (gSet 4) tYesD Pf.E_shows_order_1 [vP a b, vI p, .val (tupI P), .val (.tuple [.int (i : Int), tupI (primesM i)]), .unk] = some (((primesN i).map fun q => !Nat.beq (i / q % ordM a p P) 0).map .bool) := by
                      have it : iSeq (e2 ixD (getV 3) (cst (.int 1))) [vP a b, vI p, .val (tupI P), .val (.tuple [.int (i : Int), tupI (primesM i)]), .unk] = some ((primesN i).map fun q : Nat => PyData.int (q : Nat)) := by
                        rw [r_iSeq, primesM_t]; simp
                      have pl : (primesN i).length ≤ 1000 := by
                        have h1 := divs_len i
                        have h2 : (primesN i).length ≤ (divsN i).length := List.length_filter_le ..
                        omega
                      rw [r_lcF, it, Option.bind_some, if_pos (by rw [List.length_map]; omega), lcL_map (f := fun q : Nat => PyData.int (q : Nat)) (fun q => .bool (!Nat.beq (i / q % ordM a p P) 0)) (primesN i) fun q hq => ⟨_, rfl, rfl, ?_⟩, List.map_map]
                      · rfl
                      · have hq := mem_primes hq
                        have dle := Nat.div_le_self i q
                        have fd : fdivD (.int (i : Int)) (.int (q : Int)) = some (.int ((i / q : Nat) : Int)) := o_fdiv (by omega)
                        obtain ⟨r, er⟩ : ∃ r, i / q = r := ⟨_, rfl⟩
                        rw [er] at fd dle
                        have ri : r ≤ 310 := by omega
                        have t2 := F_times_eq G c (k := (r : Int)) (big64 (by omega)) hP
                        have dd : decide (mulZ a p (r : Int) P = []) = Nat.beq (i / q % ordM a p P) 0 := by
                          rw [er, Bool.eq_iff_iff, decide_eq_true_eq, G.ord_iff c hP]
                          rw [Int.natCast_dvd_natCast]
                          constructor
                          · intro h; exact nb_t (Nat.mod_eq_zero_of_dvd h)
                          · intro h; exact Nat.dvd_of_mod_eq_zero (nbt h)
                        unfold E_shows_order_1
                        clear tm hf
                        generalize Pf.F_times = Ft at t2 ⊢
                        simp [wipeD, fd, t2, dd]
                    rw [r_callF, r_aCons, r_lstF, e]
                    simp only [Option.map_some, Option.bind_some, r_aNil, allD_b]
                    rw [List.all_map]; rfl
                  have po := pap_of (n := i) (o := ordM a p P) (by omega) (by omega) o0 o63
                  rw [nb_t c4n, Bool.true_and] at po
                  rw [po] at fin
                  have st3 : B_shows_order [vP a b, vI p, .val (tupI P), .val (.tuple [.int (i : Int), tupI (primesM i)]), .unk] = some (.rt (.bool (Nat.beq i (ordM a p P)))) := st2 (by
                    rw [seq_if_no (by generalize Pf.F_primes_of = Fp at hf ⊢; generalize Pf.F_times = Ft at tm ⊢; simp [hf, tm, c4]), r_sRet, fin]; rfl)
                  by_cases c5 : i = ordM a p P
                  · left
                    rw [nb_t c5] at st3
                    refine ⟨(pe _).mpr ⟨c5, by rw [c5]⟩, run _ st3⟩
                  · right
                    rw [nb_f c5] at st3
                    exact ⟨fun e => c5 ((pe _).mp e).1, run _ st3⟩
                · right
                  refine ⟨fun e => ?_, run _ (st2 (seq_if_yes (by generalize Pf.F_primes_of = Fp at hf ⊢; generalize Pf.F_times = Ft at tm ⊢; simp [hf, tm, c4]) (by simp)))⟩
                  have := ((pe _).mp e).1
                  exact c4 ((G.ord_iff c hP i).mpr ⟨1, by omega⟩)
              · right
                refine ⟨fun e => ?_, run _ (st2 (seq_if_yes (by generalize Pf.F_primes_of = Fp at hf ⊢; generalize Pf.F_times = Ft; simp [hf, c3]) (by simp)))⟩
                have := (pe _).mp e
                exact c3 (by rw [this.1]; exact this.2)
          · right
            refine ⟨fun e => ?_, run _ (start (seq_if_yes (by simp [m10, c1, c2]) (by simp)))⟩
            unfold papD at e
            have := PyData.int.inj (List.cons.inj (PyData.tuple.inj e)).1
            omega
        · right
          refine ⟨fun e => ?_, run _ (start (seq_if_yes (by simp [m10, c1]) (by simp)))⟩
          unfold papD at e
          have := PyData.int.inj (List.cons.inj (PyData.tuple.inj e)).1
          omega
      · right
        have iy : tupB y = false := by cases y <;> first | rfl | exact absurd ⟨_, rfl⟩ hy
        refine ⟨fun e => ?_, run _ ?_⟩
        · unfold papD tupI at e
          exact hy ⟨_, (List.cons.inj (List.cons.inj (PyData.tuple.inj e)).2).1⟩
        · unfold B_shows_order
          exact seq_if_yes (by simp [isTuple_tm ty, iy]) (by simp)
    · right
      have ix : intB x = false := by cases x <;> first | rfl | exact absurd ⟨_, rfl⟩ hx
      refine ⟨fun e => ?_, run _ ?_⟩
      · unfold papD at e
        exact hx ⟨_, (List.cons.inj (PyData.tuple.inj e)).1⟩
      · unfold B_shows_order
        exact seq_if_yes (by simp [is_whole_tm tx, ix]) (by simp)
  · right
    refine ⟨fun e => h2 ⟨_, _, e⟩, run _ ?_⟩
    unfold B_shows_order
    by_cases ht : ∃ ds, d = .tuple ds
    · obtain ⟨ds, rfl⟩ := ht
      have hl : ¬ (ds.length : Int) = 2 := by
        intro e
        match ds, (show ds.length = 2 by omega) with
        | [x, y], _ => exact h2 ⟨x, y, rfl⟩
      exact seq_if_yes (by simp [hl]) (by simp)
    · have tf : tupB d = false := by cases d <;> first | rfl | exact absurd ⟨_, rfl⟩ ht
      exact seq_if_yes (by simp [isTuple_tm hd, tf]) (by simp)
theorem shown_end {Fl : List Dt → Option Dt} {ds : List Dt} {i o : Int} {t : Dt} {v : Bool} (fp : Fl [.int o] = some t) (z : eqD (.tuple ds) t = some (.bool v)) :
    (sRet (vAn (e2 eqD (e2 ixD (getV 1) (cst (.int 0))) (getV 0)) (e2 eqD (e2 ixD (getV 1) (cst (.int 1))) (callF Fl (aCons (getV 0) aNil))))) [vI o, .val (.tuple [.int i, .tuple ds]), .unk] = some (.rt (.bool (decide (i = o) && v))) := by
  by_cases hi : i = o
  · simp [hi, fp, z]
  · simp [hi]
theorem shown_is {o : Nat} (o0 : 1 ≤ o) (o63 : o ≤ 63) {k : Nat} {d : Dt} (hd : Tm k d) (hk : k ≤ 50) (hl : ∀ x ds, d = .tuple [x, .tuple ds] → ds.length ≤ 1000) :
    (d = papD o ∧ F_law_shown [.int o, d] = some (.bool true)) ∨ (d ≠ papD o ∧ F_law_shown [.int o, d] = some (.bool false)) := by
  have run : ∀ v, B_law_shown [vI o, .val d, .unk] = some (.rt (.bool v)) → F_law_shown [.int o, d] = some (.bool v) := fun v h => run_rt rfl h
  by_cases h2 : ∃ x y, d = .tuple [x, y]
  · obtain ⟨x, y, rfl⟩ := h2
    obtain ⟨k, rfl⟩ : ∃ j, k = j + 1 := by cases hd; exact ⟨_, rfl⟩
    have tx := hd.mem (d := x) (by simp)
    have ty := hd.mem (d := y) (by simp)
    by_cases hx : ∃ i, x = .int i
    · obtain ⟨i, rfl⟩ := hx
      by_cases hy : ∃ ds, y = .tuple ds
      · obtain ⟨ds, rfl⟩ := hy
        obtain ⟨k, rfl⟩ : ∃ j, k = j + 1 := by cases ty; exact ⟨_, rfl⟩
        have hl := hl _ _ rfl
        have lc : lcF (iSeq (e2 ixD (getV 1) (cst (.int 1)))) [2] (gSet 2) Pf.T_law_shown_1 Pf.E_law_shown_1 [vI o, .val (.tuple [.int i, .tuple ds]), .unk] = some (ds.filter boolB) := by
          have it : iSeq (e2 ixD (getV 1) (cst (.int 1))) [vI o, .val (.tuple [.int i, .tuple ds]), .unk] = some ds := by simp
          have := lcL_filter (f := id) (g := gSet 2) (t := T_law_shown_1) (e := E_law_shown_1) (ρ := wipeD [vI o, .val (.tuple [.int i, .tuple ds]), .unk] [2]) boolB id ds fun d hd' => ⟨_, rfl, by simp [T_law_shown_1, wipeD, isBool_tm (ty.mem hd')], fun _ => by simp [E_law_shown_1, wipeD]⟩
          rw [List.map_id, List.map_id] at this
          rw [r_lcF, it, Option.bind_some, if_pos (by omega), this]
        have nl := ne_list0 (ds := ds.filter boolB) (k := k) (fun d hd' => ty.mem (List.mem_filter.mp hd').1) (by omega)
        have start : ∀ {r}, (sSeq (sIf (tOrr (tNt (tB' (e1 isTuple (e2 ixD (getV 1) (cst (.int 1)))))) (tB' (e2 neD (lstF (lcF (iSeq (e2 ixD (getV 1) (cst (.int 1)))) [2] (gSet 2) Pf.T_law_shown_1 Pf.E_law_shown_1)) (mkLst aNil))))
            (sRet (cst (.bool false))) sNil)
            (sRet (vAn (e2 eqD (e2 ixD (getV 1) (cst (.int 0))) (getV 0)) (e2 eqD (e2 ixD (getV 1) (cst (.int 1))) (callF Pf.F_law_primes (aCons (getV 0) aNil))))) : SF) [vI o, .val (.tuple [.int i, .tuple ds]), .unk] = r → B_law_shown [vI o, .val (.tuple [.int i, .tuple ds]), .unk] = r := fun h => by
          unfold B_law_shown
          rw [seq_if_no (by simp)]
          exact h
        cases hb : (ds.filter boolB).isEmpty with
        | false =>
          right
          rw [hb] at nl
          refine ⟨fun e => ?_, run _ (start (seq_if_yes (by
            rw [r_tOr, r_tNt, r_tB, r_tB, r_e2, r_lstF, lc]
            simp [nl]) (by simp)))⟩
          unfold papD tupI at e
          have e := PyData.tuple.inj (List.cons.inj (List.cons.inj (PyData.tuple.inj e)).2).1
          rw [e] at hb
          have : ((primesM o).map PyData.int).filter boolB = [] := List.filter_eq_nil_iff.mpr fun x hx => by
            obtain ⟨i, _, rfl⟩ := List.mem_map.mp hx
            simp [boolB]
          rw [this] at hb; cases hb
        | true =>
          rw [hb] at nl
          have nb : ds.all (fun d => !boolB d) = true := filter_none.mp (List.isEmpty_iff.mp hb)
          have e2' : eqD (.tuple ds) (tupI (primesM o)) = some (.bool (PyData.eqvAll ds ((primesM o).map .int))) := by
            unfold eqD
            rw [ty.sh (by omega), sh_tupI, Bool.and_self, if_pos rfl]
            unfold tupI
            rw [PyData.eqv]
          have fp := F_law_primes_eq (n := o) o0 (by omega)
          have val : B_law_shown [vI o, .val (.tuple [.int i, .tuple ds]), .unk] = some (.rt (.bool (decide (i = (o : Int)) && PyData.eqvAll ds ((primesM o).map .int)))) := start (by
            rw [seq_if_no (by
              rw [r_tOr, r_tNt, r_tB, r_tB, r_e2, r_lstF, lc]
              simp [nl])]
            exact shown_end fp e2')
          by_cases hi : i = (o : Int) ∧ PyData.eqvAll ds ((primesM o).map .int) = true
          · left
            have e := eqvAll_nobool2 hi.2 nb
            refine ⟨by rw [hi.1, e]; rfl, run _ (by rw [val, hi.2, hi.1]; simp)⟩
          · right
            refine ⟨fun e => hi ?_, run _ (by
              rw [val]
              have : (decide (i = (o : Int)) && PyData.eqvAll ds ((primesM o).map .int)) = false := by
                rw [Bool.and_eq_false_iff, decide_eq_false_iff_not]
                by_cases q : i = (o : Int)
                · right
                  cases q2 : PyData.eqvAll ds ((primesM o).map .int)
                  · rfl
                  · exact absurd ⟨q, q2⟩ hi
                · exact .inl q
              rw [this])⟩
            unfold papD tupI at e
            have e := PyData.tuple.inj e
            refine ⟨PyData.int.inj (List.cons.inj e).1, ?_⟩
            rw [PyData.tuple.inj (List.cons.inj (List.cons.inj e).2).1, eqvAll_ints]
            simp
      · right
        have iy : tupB y = false := by cases y <;> first | rfl | exact absurd ⟨_, rfl⟩ hy
        refine ⟨fun e => ?_, run _ ?_⟩
        · unfold papD tupI at e
          exact hy ⟨_, (List.cons.inj (List.cons.inj (PyData.tuple.inj e)).2).1⟩
        · unfold B_law_shown
          rw [seq_if_no (by simp)]
          exact seq_if_yes (by simp [isTuple_tm ty, iy]) (by simp)
    · right
      refine ⟨fun e => ?_, run _ ?_⟩
      · unfold papD at e
        exact hx ⟨_, (List.cons.inj (PyData.tuple.inj e)).1⟩
      · unfold B_law_shown
        refine seq_if_yes ?_ (by simp)
        cases x with
        | int i => exact absurd ⟨_, rfl⟩ hx
        | _ => simp [isInt_tm tx, isBool_tm tx, ibB, boolB]
  · right
    refine ⟨fun e => h2 ⟨_, _, e⟩, run _ ?_⟩
    unfold B_law_shown
    by_cases ht : ∃ ds, d = .tuple ds
    · obtain ⟨ds, rfl⟩ := ht
      have hl : ¬ (ds.length : Int) = 2 := by
        intro e
        match ds, (show ds.length = 2 by omega) with
        | [x, y], _ => exact h2 ⟨x, y, rfl⟩
      exact seq_if_yes (by simp [hl]) (by simp)
    · have tf : tupB d = false := by cases d <;> first | rfl | exact absurd ⟨_, rfl⟩ ht
      exact seq_if_yes (by simp [isTuple_tm hd, tf]) (by simp)
end
end Pf
namespace Pf
open PySem Cc L2
theorem pr_len : ((List.range 64).all fun o => Nat.ble (primesN o).length 10) = true := by decide +kernel
theorem pap_si {o : Nat} (h : o ≤ 63) : Si 2 (papD o) := by
  have hp := List.all_eq_true.mp pr_len o (List.mem_range.mpr (by omega))
  have hp := Nat.le_of_ble_eq_true hp
  refine .tuple (by simp) fun d hd => ?_
  simp only [List.mem_cons, List.not_mem_nil, or_false] at hd
  rcases hd with rfl | rfl
  · exact .int (by omega)
  · refine .tuple (by simp [primesM]; exact hp) fun d hd => ?_
    obtain ⟨i, hi, rfl⟩ := List.mem_map.mp hd
    obtain ⟨q, hq, rfl⟩ := List.mem_map.mp hi
    have := mem_primes hq
    exact .int (by omega)
theorem tm_len {k : Nat} {d : Dt} (h : Tm k d) : ∀ x ds, d = .tuple [x, .tuple ds] → ds.length ≤ 1000 := by
  rintro x ds rfl
  obtain ⟨k, rfl⟩ : ∃ j, k = j + 1 := by cases h; exact ⟨_, rfl⟩
  exact (h.mem (d := .tuple ds) (by simp)).len
theorem ne_pap {o : Nat} (h : o ≤ 63) : neD (papD o) (papD o) = some (.bool false) := by
  have sh := (pap_si h).tm.sh (by omega)
  unfold neD
  rw [sh, Bool.and_self, if_pos rfl]
  unfold papD
  simp [PyData.eqv, PyData.eqvAll, eqv_tupI]
theorem order_paper_eq {p a b m n : Int} {g : Int → Int → List Int} (G : Gr p a b m n g) (c : Cv p a b) {P : List Int} (hP : P ∈ ptsM a b p) : F_order_paper [.tuple [.int a, .int b], .int p, tupI P] = some (papD (ordM a p P)) := by
  obtain ⟨o0, _, _, _⟩ := G.ord c hP
  obtain ⟨o63, o10⟩ := ord_small G c hP
  have h1 := F_order_eq G c hP
  have h2 := F_primes_of_eq (n := ordM a p P) o0 (by omega)
  refine run_rt rfl ?_
  show B_order_paper [vP a b, vI p, .val (tupI P), .unk] = _
  unfold B_order_paper
  generalize Pf.F_primes_of = Fp at h2 ⊢
  generalize Pf.F_order = Fo at h1 ⊢
  rw [seq_set (d := .int (ordM a p P)) (by simp [h1])]
  simp only [List.set_cons_succ, List.set_cons_zero]
  simp [h2, papD]
theorem mkTup2_eq {f h : EF} {ρ : Dn} {x y : Dt} (h1 : f ρ = some x) (h2 : h ρ = some y) : mkTup (aCons f (aCons h aNil)) ρ = some (.tuple [x, y]) := by
  rw [r_mkTup2, h1, Option.bind_some, h2, Option.bind_some]
theorem call1_eq {F : List Dt → Option Dt} {f : EF} {ρ : Dn} {x y : Dt} (h1 : f ρ = some x) (h2 : F [x] = some y) : callF F (aCons f aNil) ρ = some y := by
  rw [r_callF, r_aCons, h1, Option.bind_some, r_aNil, Option.map_some, Option.bind_some, h2]
theorem or_ff {t u : TF} {ρ : Dn} (h1 : t ρ = some false) (h2 : u ρ = some false) : tOrr t u ρ = some false := by
  rw [r_tOr, h1, Option.bind_some, h2]; rfl
theorem ne_ff {f h : EF} {ρ : Dn} {x y : Dt} {b : Bool} (h1 : f ρ = some x) (h2 : h ρ = some y) (h3 : neD x y = some (.bool b)) : tB' (e2 neD f h) ρ = some b := by
  rw [r_tB, r_e2, h1, Option.bind_some, h2, Option.bind_some, h3, r_asB]
theorem law_k21_true (ns : List Int) (hl : ns.length ≤ 63) : F_law_k21 ns [] = some (.bool true) := by
  obtain ⟨p, hp, h1⟩ := size_of ns
  obtain ⟨a, b, c, h2⟩ := curve_of ns (k := 1) (by decide) (by decide) hp
  obtain ⟨m, n, g, G⟩ := group_of c
  have p0 := c.p0; have p1 := c.p1
  obtain ⟨P, hP, hpk⟩ := pick_of (pts_ne a b p) (mixed ns 2)
  have hpos : (0 : Int) < (ptsM a b p).length := by have := List.length_pos_iff.mpr (pts_ne a b p); omega
  have q0 : ∀ z, modD (.int z) (.int (ptsM a b p).length) = some (.int (z % (ptsM a b p).length)) := fun z => o_mod hpos
  obtain ⟨o0, _, _, _⟩ := G.ord c hP
  obtain ⟨o63, o10⟩ := ord_small G c hP
  have lp := F_law_primes_eq (n := ordM a p P) o0 (by omega)
  have tp := (pap_si o63).tm
  have both : ∀ {Q : List Int}, Q ∈ ptsM a b p → ∀ {k : Nat} {d : Dt}, Tm k d → k ≤ 50 → ∃ v, F_shows_order [.tuple [.int a, .int b], .int p, tupI Q, d] = some (.bool v) ∧ F_law_shown [.int (ordM a p Q), d] = some (.bool v) := by
    intro Q hQ k d hd hk
    obtain ⟨r0, _, _, _⟩ := G.ord c hQ
    obtain ⟨r63, _⟩ := ord_small G c hQ
    rcases shows_is G c hQ hd hk (tm_len hd) with ⟨e, h⟩ | ⟨e, h⟩ <;> rcases shown_is r0 r63 hd hk (tm_len hd) with ⟨e', h'⟩ | ⟨e', h'⟩
    · exact ⟨_, h, h'⟩
    · exact absurd e e'
    · exact absurd e' e
    · exact ⟨_, h, h'⟩
  refine runS_rt rfl ?_
  show B_law_k21 [.scr ns, .unk, .unk, .unk, .unk, .unk, .unk, .unk, .unk, .unk, .unk] = _
  unfold B_law_k21
  rw [seq_set (h1 _)]
  simp only [List.set_cons_succ, List.set_cons_zero]
  rw [seq_set (h2 _)]
  simp only [List.set_cons_succ, List.set_cons_zero]
  rw [seq_set (d := .list ((ptsM a b p).map tupI)) (by simp [F_law_points_eq c])]
  simp only [List.set_cons_succ, List.set_cons_zero]
  rw [seq_set (d := tupI P) (by simp [F_mixed (ns := ns) (k := 2) (by decide) (by decide), q0, hpk])]
  simp only [List.set_cons_succ, List.set_cons_zero]
  rw [seq_set (d := .int (ordM a p P)) (by simp [F_often_eq G c hP, often_len])]
  simp only [List.set_cons_succ, List.set_cons_zero]
  have op := order_paper_eq G c hP
  generalize Pf.F_order_paper = Fop at op ⊢
  rw [seq_set (d := papD (ordM a p P)) (by simp [op])]
  simp only [List.set_cons_succ, List.set_cons_zero]
  obtain ⟨v0, _, s2⟩ := both hP tp (by omega)
  have ev : v0 = true := by
    rcases shown_is o0 o63 tp (by omega) (tm_len tp) with ⟨_, h⟩ | ⟨e, _⟩
    · rw [s2] at h; exact PyData.bool.inj (Option.some.inj h)
    · exact absurd rfl e
  subst ev
  have lpm : ∀ k : Nat, 1 ≤ k → k ≤ 1000 → F_law_primes [.int k] = some (tupI (primesM k)) := fun k h1 h2 => F_law_primes_eq h1 h2
  generalize Pf.F_law_primes = Fl at lp lpm ⊢
  generalize Pf.F_shows_order = Fs at both ⊢
  generalize Pf.F_law_shown = Fn at both s2 ⊢
  have np := ne_pap o63
  rw [seq_if_no (by
    refine or_ff (ne_ff (x := papD (ordM a p P)) rfl (mkTup2_eq rfl (call1_eq rfl lp)) np) ?_
    generalize papD (ordM a p P) = pd at s2 ⊢
    simp [s2])]
  rw [seq_set (d := .int (mixed ns 3)) (by simp [F_mixed (ns := ns) (k := 3) (by decide) (by decide)])]
  simp only [List.set_cons_succ, List.set_cons_zero]
  generalize mixed ns 3 = number
  refine seq_step (P := fun ρ => ∃ d, Tm 5 d ∧ ρ = [.scr ns, vI p, vP a b, .val (.list ((ptsM a b p).map tupI)), .val (tupI P), vI (ordM a p P), .val d, vI number, .unk, .unk, .unk]) (R := fun o => o = some (.rt (.bool true))) ?_ ?_
  · by_cases h : number % 2 = 1
    · have hd := md (number / 2) 3 (by decide)
      obtain ⟨r, e, t⟩ := spoilt_ok (pap_si o63) (mixed ns 4) (deep := number / 2 % 3) (by omega)
      refine ⟨[.scr ns, vI p, vP a b, .val (.list ((ptsM a b p).map tupI)), .val (tupI P), vI (ordM a p P), .val r, vI number, .unk, .unk, .unk], ?_, r, t, rfl⟩
      generalize Pf.F_law_spoilt = Fsp at e ⊢
      simp (disch := omega) [h, F_mixed (ns := ns) (k := 4) (by decide) (by decide), e]
    · exact ⟨_, by simp (disch := omega) [h], _, tp.le (by omega), rfl⟩
  rintro _ ⟨d, td, rfl⟩
  refine seq_step (P := fun ρ => ∃ d s10, Tm 5 d ∧ ρ = [.scr ns, vI p, vP a b, .val (.list ((ptsM a b p).map tupI)), .val (tupI P), vI (ordM a p P), .val d, vI number, .unk, .unk, s10]) (R := fun o => o = some (.rt (.bool true))) ?_ ?_
  · by_cases h : number % 8 = 2
    · have hm := md (number / 8) 6 (by decide)
      obtain ⟨r, hr⟩ : ∃ r : Nat, (ordM a p P : Int) * (1 + number / 8 % 6) = r := Int.eq_ofNat_of_zero_le (Int.mul_nonneg (by omega) (by omega))
      have r1 : 1 ≤ r ∧ r ≤ 378 := by
        have h1 : (ordM a p P : Int) * 1 ≤ (ordM a p P : Int) * (1 + number / 8 % 6) := Int.mul_le_mul_of_nonneg_left (by omega) (by omega)
        have h2 : (ordM a p P : Int) * (1 + number / 8 % 6) ≤ 63 * 6 := Int.mul_le_mul (by omega) (by omega) (by omega) (by omega)
        omega
      have lr := lpm r r1.1 (by omega)
      have om : mulD (.int (ordM a p P)) (.int (1 + number / 8 % 6)) = some (.int r) := by rw [← hr]; exact o_mul (.inr (by omega))
      have tr : Tm 5 (papD r) := by
        have pl : (primesN r).length ≤ 1000 := by
          have h1 := divs_len r
          have h2 : (primesN r).length ≤ (divsN r).length := List.length_filter_le ..
          omega
        refine .tuple fun d hd => ?_
        simp only [List.mem_cons, List.not_mem_nil, or_false] at hd
        rcases hd with rfl | rfl
        · exact .int (b200 (by omega))
        · refine tm_tupI (fun i hi => ?_) (by simp [primesM]; exact pl)
          obtain ⟨q, hq, rfl⟩ := List.mem_map.mp hi
          have := mem_primes hq
          exact b200 (by omega)
      refine ⟨[.scr ns, vI p, vP a b, .val (.list ((ptsM a b p).map tupI)), .val (tupI P), vI (ordM a p P), .val (papD r), vI number, .unk, .unk, vI r], ?_, papD r, _, tr, rfl⟩
      rw [r_sIf]
      have ht : tB' (e2 eqD (e2 modD (getV 7) (cst (.int 8))) (cst (.int 2))) [.scr ns, vI p, vP a b, .val (.list ((ptsM a b p).map tupI)), .val (tupI P), vI (ordM a p P), .val d, vI number, .unk, .unk, .unk] = some true := by
        simp (disch := omega) [h]
      rw [ht, Option.bind_some, if_pos rfl]
      rw [seq_set (d := .int r) (by simp (disch := omega) [om])]
      simp only [List.set_cons_succ, List.set_cons_zero]
      rw [set_eq (d := papD r) (mkTup2_eq rfl (call1_eq rfl lr))]
      rfl
    · exact ⟨_, by simp (disch := omega) [h], d, .unk, td, rfl⟩
  rintro _ ⟨d, s10, td, rfl⟩
  obtain ⟨v, f1, f2⟩ := both hP td (by omega)
  rw [seq_set (d := .bool v) (by simp [f1])]
  simp only [List.set_cons_succ, List.set_cons_zero]
  have nb : neD (.bool v) (.bool v) = some (.bool false) := by
    unfold neD; rw [sh_bool, Bool.and_self, if_pos rfl]; simp [PyData.eqv]
  rw [seq_if_no (by simp [f2, nb])]
  obtain ⟨Q, hQ, hqk⟩ := pick_of (pts_ne a b p) (number / 64)
  obtain ⟨w, g1, g2⟩ := both hQ td (by omega)
  rw [seq_set (d := tupI Q) (by simp (disch := omega) [q0, hqk])]
  simp only [List.set_cons_succ, List.set_cons_zero]
  rw [seq_set (d := .bool w) (by simp [g1])]
  simp only [List.set_cons_succ, List.set_cons_zero]
  simp [F_often_eq G c hQ, often_len, g2]
end Pf

-- part M01
set_option maxHeartbeats 1000000
namespace Pf
open PySem Cc L2
@[simp] theorem o_inIT {x : Int} {xs : List Int} : inD (.int x) (.tuple (xs.map .int)) = some (.bool (decide (x ∈ xs))) := by
  unfold inD; simp only []; rw [sh_int, sh_listI, Bool.and_self, if_pos rfl, mem_any_int]
theorem primes_pr : C_PRIMES = .tuple (PR.map .int) := rfl
theorem clocks_pr (ρ : Dn) : (mkTup (aCons (cst (.int 5)) (aCons (cst (.int 7)) (aCons (cst (.int 11)) (aCons (cst (.int 13)) (aCons (cst (.int 17)) (aCons (cst (.int 19)) (aCons (cst (.int 23)) (aCons (cst (.int 29)) (aCons (cst (.int 31)) aNil)))))))))) ρ = some (.tuple (PR.map .int)) := rfl
def clkB : Dt → Bool
  | .int i => decide (i ∈ PR)
  | _ => false
theorem is_clock_tm {k : Nat} {d : Dt} (h : Tm k d) : F_is_clock [d] = some (.bool (clkB d)) := by
  refine run_rt rfl ?_
  show B_is_clock [.val d] = _
  have hw := is_whole_tm h
  unfold B_is_clock
  rw [primes_pr]
  cases h with
  | int _ => simp [hw, intB, clkB]
  | _ => simp [hw, intB, clkB]
theorem same_b (v : Bool) : F_law_same [.bool v, .bool v] = some (.bool true) := by
  refine run_rt rfl ?_
  show B_law_same [.val (.bool v), .val (.bool v)] = _
  simp [B_law_same]
theorem due_clock {k : Nat} {d : Dt} (h : Tm k d) {s0 s1 s2 s3 s6 s7 : Sl} : vAn (e1 isInt (getV 5)) (vAn (vNt (e1 isBool (getV 5))) (e2 inD (getV 5) (getV 4))) [s0, s1, s2, s3, .val (.tuple (PR.map .int)), .val d, s6, s7] = some (.bool (clkB d)) := by
  cases h with
  | int _ => simp [clkB]
  | bool b => simp [clkB, isiD]
  | non => simp [clkB, isiD]
  | str _ => simp [clkB, isiD]
  | list _ => simp [clkB, isiD]
  | tuple _ => simp [clkB, isiD]
def numsB (p : Int) : Dt → Bool
  | .tuple [x, y] => numB p x && numB p y
  | _ => false
theorem numsB_iff {p : Int} {d : Dt} : numsB p d = true ↔ ∃ x y, d = .tuple [.int x, .int y] ∧ (0 ≤ x ∧ x < p) ∧ (0 ≤ y ∧ y < p) := by
  constructor
  · intro h
    unfold numsB at h
    split at h
    · next x y =>
      rw [Bool.and_eq_true] at h
      obtain ⟨h1, h2⟩ := h
      cases x <;> cases y <;> first
        | (cases h1; done)
        | (cases h2; done)
        | skip
      simp only [numB, Bool.and_eq_true, decide_eq_true_eq] at h1 h2
      exact ⟨_, _, rfl, h1, h2⟩
    · cases h
  · rintro ⟨x, y, rfl, hx, hy⟩
    simp [numsB, numB, hx, hy]
theorem are_numbers_tm {k : Nat} {d : Dt} {p : Int} (h : Tm k d) : F_law_are_numbers [d, .int p] = some (.bool (numsB p d)) := by
  refine run_rt rfl ?_
  show B_law_are_numbers [.val d, vI p, .unk] = _
  unfold B_law_are_numbers
  by_cases h2 : ∃ x y, d = .tuple [x, y]
  · obtain ⟨x, y, rfl⟩ := h2
    obtain ⟨k, rfl⟩ : ∃ j, k = j + 1 := by cases h; exact ⟨_, rfl⟩
    have tx := h.mem (d := x) (by simp)
    have ty := h.mem (d := y) (by simp)
    rw [seq_if_no (by simp)]
    have turn : ∀ {z w : Dt}, Tm k z → L_law_are_numbers_1 [.val w, vI p, .val z] = if numB p z then some (.nx [.val w, vI p, .val z]) else some (.rt (.bool false)) := by
      intro z w hz
      unfold L_law_are_numbers_1
      cases hz with
      | int _ =>
        rename_i i _
        by_cases q : 0 ≤ i
        · by_cases q2 : i < p <;> simp [numB, q, q2]
        · simp [numB, q]
      | bool b => simp [numB, isiD]
      | non => simp [numB, isiD]
      | str _ => simp [numB, isiD]
      | list _ => simp [numB, isiD]
      | tuple _ => simp [numB, isiD]
    have it : iSeq (getV 0) [.val (.tuple [x, y]), vI p, .unk] = some [x, y] := rfl
    have t1 := turn (w := .tuple [x, y]) tx
    have t2 := turn (w := .tuple [x, y]) ty
    show _ = some (Res.rt (.bool (numB p x && numB p y)))
    cases hx : numB p x with
    | false =>
      rw [hx] at t1
      exact seq_rt (by rw [r_sFor, it, Option.bind_some, forL_rt rfl t1]; rfl)
    | true =>
      rw [hx] at t1
      cases hy : numB p y with
      | false =>
        rw [hy] at t2
        exact seq_rt (by rw [r_sFor, it, Option.bind_some, forL_nx rfl t1, forL_rt rfl t2]; rfl)
      | true =>
        rw [hy] at t2
        rw [seq_nx (ρ' := [.val (.tuple [x, y]), vI p, .val y]) (by rw [r_sFor, it, Option.bind_some, forL_nx rfl t1, forL_nx rfl t2]; rfl)]
        rfl
  · have nb : numsB p d = false := by
      cases q : numsB p d
      · rfl
      · obtain ⟨x, y, e, _⟩ := numsB_iff.mp q
        exact absurd ⟨_, _, e⟩ h2
    rw [nb]
    by_cases ht : ∃ ds, d = .tuple ds
    · obtain ⟨ds, rfl⟩ := ht
      have hl : ¬ (ds.length : Int) = 2 := by
        intro e
        match ds, (show ds.length = 2 by omega) with
        | [x, y], _ => exact h2 ⟨x, y, rfl⟩
      exact seq_if_yes (by simp [hl]) (by simp)
    · have tf : tupB d = false := by cases d <;> first | rfl | exact absurd ⟨_, rfl⟩ ht
      exact seq_if_yes (by simp [isTuple_tm h, tf]) (by simp)
/-- what is_curve answers -/
def cvB (p : Int) : Dt → Bool
  | .tuple [.int x, .int y] => numsB p (.tuple [.int x, .int y]) && goodM x y p
  | _ => false
theorem is_curve_tm {k : Nat} {d : Dt} {p : Int} (hp : 5 ≤ p ∧ p ≤ 31) (h : Tm k d) : F_is_curve [d, .int p] = some (.bool (cvB p d)) := by
  refine run_rt rfl ?_
  show B_is_curve [.val d, vI p, .unk] = _
  unfold B_is_curve
  by_cases h2 : ∃ x y, d = .tuple [x, y]
  · obtain ⟨x, y, rfl⟩ := h2
    obtain ⟨k, rfl⟩ : ∃ j, k = j + 1 := by cases h; exact ⟨_, rfl⟩
    have tx := h.mem (d := x) (by simp)
    have ty := h.mem (d := y) (by simp)
    have al := all_lc (ds := [x, y]) (i := 2) (f := getV 0) (e := E_is_curve_1) (ρ := [.val (.tuple [x, y]), vI p, .unk]) (v := numB p) rfl (by simp) (by
      intro z hz
      have hz : Tm k z := by
        rcases List.mem_cons.mp hz with rfl | hz
        · exact tx
        · rcases List.mem_cons.mp hz with rfl | hz
          · exact ty
          · cases hz
      simp [E_is_curve_1, wipeD, is_number_tm hz])
    cases hn : [x, y].all (numB p) with
    | false =>
      rw [hn] at al
      have : cvB p (.tuple [x, y]) = false := by
        simp only [List.all_cons, List.all_nil, Bool.and_true] at hn
        cases x <;> cases y <;> try rfl
        simp only [cvB, numsB, hn, Bool.false_and]
      rw [this]
      refine seq_if_yes ?_ (by simp)
      rw [r_tOr, r_tNt, r_tB, r_e1, r_getV, nth0, r_slV, Option.bind_some, isTuple_tup, r_tOr, r_tNt, r_tB, r_tB, al]
      simp
    | true =>
      rw [hn] at al
      simp only [List.all_cons, List.all_nil, Bool.and_true] at hn
      have hn' : numsB p (.tuple [x, y]) = true := hn
      obtain ⟨x, y, e, hx, hy⟩ := numsB_iff.mp hn'
      cases e
      rw [seq_if_no (by
        rw [r_tOr, r_tNt, r_tB, r_e1, r_getV, nth0, r_slV, Option.bind_some, isTuple_tup, r_tOr, r_tNt, r_tB, r_tB, al]
        simp)]
      have : cvB p (.tuple [.int x, .int y]) = goodM x y p := by
        simp only [cvB, hn', Bool.true_and]
      rw [this]
      simp (disch := omega) [goodM]
  · have nb : cvB p d = false := by
      unfold cvB
      split
      · next x y => exact absurd ⟨_, _, rfl⟩ h2
      · rfl
    rw [nb]
    by_cases ht : ∃ ds, d = .tuple ds
    · obtain ⟨ds, rfl⟩ := ht
      have hl : ¬ (ds.length : Int) = 2 := by
        intro e
        match ds, (show ds.length = 2 by omega) with
        | [x, y], _ => exact h2 ⟨x, y, rfl⟩
      exact seq_if_yes (by simp [hl]) (by simp)
    · have tf : tupB d = false := by cases d <;> first | rfl | exact absurd ⟨_, rfl⟩ ht
      exact seq_if_yes (by simp [isTuple_tm h, tf]) (by simp)
/-- numbers, and then a curve -/
theorem due_curve {k : Nat} {d : Dt} {p : Int} (hp : 5 ≤ p ∧ p ≤ 31) (h : Tm k d) {f h' : EF} {ρ : Dn} (hf : f ρ = some d) (hh : h' ρ = some (.int p)) : vAn (callF Pf.F_law_are_numbers (aCons f (aCons h' aNil))) (callF Pf.F_law_good (aCons f (aCons h' aNil))) ρ = some (.bool (cvB p d)) := by
  have an := are_numbers_tm (p := p) h
  cases q : numsB p d with
  | false =>
    have : cvB p d = false := by
      unfold cvB
      split
      · rw [q]; rfl
      · rfl
    rw [this]
    rw [q] at an
    simp [hf, hh, an]
  | true =>
    obtain ⟨x, y, e, hx, hy⟩ := numsB_iff.mp q
    subst e
    have : cvB p (.tuple [.int x, .int y]) = goodM x y p := by
      simp only [cvB, q, Bool.true_and]
    rw [this]
    rw [q] at an
    simp [hf, hh, an, F_good (a := x) (b := y) (p := p) (by omega) (by omega) (by omega)]
theorem due_point {k : Nat} {d : Dt} {a b p : Int} (h : Tm k d) (hk : k ≤ 50) {f g h' : EF} {ρ : Dn} (hf : f ρ = some d) (hg : g ρ = some (.list ((ptsM a b p).map tupI))) (hh : h' ρ = some (.int p)) :
    vAn (e1 isTuple f) (vAn (e2 inD f g) (vOr (e2 eqD f (mkTup aNil)) (callF Pf.F_law_are_numbers (aCons f (aCons h' aNil))))) ρ = some (.bool (ptB a b p d)) := by
  have an := are_numbers_tm (p := p) h
  by_cases ht : ∃ ds, d = .tuple ds
  · obtain ⟨ds, rfl⟩ := ht
    obtain ⟨k, rfl⟩ : ∃ j, k = j + 1 := by cases h; exact ⟨_, rfl⟩
    have hin := in_pts (a := a) (b := b) (p := p) h
    have no : inD (.tuple ds) (.list ((ptsM a b p).map tupI)) = some (.bool (((ptsM a b p).map tupI).any (fun z => PyData.eqv z (.tuple ds)))) := by
      unfold inD
      simp only []
      rw [h.sh (by omega), sh_listT, Bool.and_self, if_pos rfl]
    have en := eq_nil_tm h (by omega)
    cases q : ((ptsM a b p).map tupI).any (fun z => PyData.eqv z (.tuple ds)) with
    | false =>
      rw [q] at hin no
      rw [← hin]
      simp [hf, hg, no, -List.any_map]
    | true =>
      rw [q, Bool.true_and] at hin
      rw [q] at no
      have key : (nilB (.tuple ds) || numsB p (.tuple ds)) = ptB a b p (.tuple ds) := by
        rw [← hin, Bool.eq_iff_iff, Bool.or_eq_true]
        constructor
        · rintro (z | z)
          · have := PyData.tuple.inj (nilB_iff.mp z)
            subst this; rfl
          · obtain ⟨x, y, e, _⟩ := numsB_iff.mp z
            have := PyData.tuple.inj e
            subst this; rfl
        · intro z
          rw [hin] at z
          obtain ⟨t, ht, e⟩ := ptB_iff.mp z
          rw [e]
          rcases mem_pts.mp ht with rfl | ⟨x, y, rfl, hx, hy, _⟩
          · exact .inl rfl
          · exact .inr (numsB_iff.mpr ⟨x, y, rfl, hx, hy⟩)
      rw [← key]
      cases z : nilB (.tuple ds) with
      | true =>
        rw [z] at en
        simp [hf, hg, no, en, -List.any_map]
      | false =>
        rw [z] at en
        simp [hf, hg, hh, no, en, an, -List.any_map]
  · have tf : tupB d = false := by cases d <;> first | rfl | exact absurd ⟨_, rfl⟩ ht
    have : ptB a b p d = false := by cases d <;> first | rfl | exact absurd ⟨_, rfl⟩ ht
    rw [this]
    simp [hf, isTuple_tm h, tf]
theorem law_k01_true (ns : List Int) (hl : ns.length ≤ 63) : F_law_k01 ns [] = some (.bool true) := by
  obtain ⟨p, hp, h1⟩ := size_of ns
  obtain ⟨a, b, c, h2⟩ := curve_of ns (k := 1) (by decide) (by decide) hp
  have p0 := c.p0; have p1 := c.p1; have a0 := c.a0; have a1 := c.a1; have b0 := c.b0; have b1 := c.b1
  have hpos : (0 : Int) < (ptsM a b p).length := by have := List.length_pos_iff.mpr (pts_ne a b p); omega
  have q0 : ∀ z, modD (.int z) (.int (ptsM a b p).length) = some (.int (z % (ptsM a b p).length)) := fun z => o_mod hpos
  have qp : ∀ z, modD (.int z) (.int p) = some (.int (z % p)) := fun z => o_mod (by omega)
  have sp : ∀ {x y : Int} {k : Nat}, (0 ≤ x ∧ x < p) → (0 ≤ y ∧ y < p) → Si (k + 1) (.tuple [.int x, .int y]) := by
    intro x y k hx hy
    refine .tuple (by simp) fun d hd => ?_
    simp only [List.mem_cons, List.not_mem_nil, or_false] at hd
    rcases hd with rfl | rfl <;> exact .int (by omega)
  refine runS_rt rfl ?_
  show B_law_k01 [.scr ns, .unk, .unk, .unk, .unk, .unk, .unk, .unk] = _
  unfold B_law_k01
  rw [seq_set (h1 _)]
  simp only [List.set_cons_succ, List.set_cons_zero]
  rw [seq_set (h2 _)]
  simp only [List.set_cons_succ, List.set_cons_zero]
  rw [seq_set (d := .int (mixed ns 2)) (by simp [F_mixed (ns := ns) (k := 2) (by decide) (by decide)])]
  simp only [List.set_cons_succ, List.set_cons_zero]
  generalize mixed ns 2 = number
  rw [seq_set (clocks_pr _)]
  simp only [List.set_cons_succ, List.set_cons_zero]
  -- numbers
  have it1 : ∀ ρ : Dn, iF rng2D (aCons (e1 negD (cst (.int 2))) (aCons (cst (.int 71)) aNil)) ρ = some (((List.range 73).map fun i : Nat => (-2 : Int) + (i : Nat)).map .int) := fun ρ => by
    rw [List.map_map]; rfl
  have loop1 := forL_ind (f := PyData.int) (g := gSet 5) (B := L_law_k01_2) ((List.range 73).map fun i : Nat => (-2 : Int) + (i : Nat))
    (fun _ ρ => ∃ s5, ρ = [.scr ns, vI p, vP a b, vI number, .val (.tuple (PR.map .int)), s5, .unk, .unk]) (ρ := [.scr ns, vI p, vP a b, vI number, .val (.tuple (PR.map .int)), .unk, .unk, .unk]) ⟨_, rfl⟩
    (by
      rintro i x _ hx ⟨s5, rfl⟩
      have hx := List.mem_of_getElem? hx
      obtain ⟨j, hj, rfl⟩ := List.mem_map.mp hx
      have hj := List.mem_range.mp hj
      have ic := is_clock_tm (k := 0) (d := .int (-2 + (j : Nat))) (.int (b200 (by omega)))
      refine ⟨_, _, rfl, ?_, vI (-2 + (j : Nat)), rfl⟩
      simp only [List.set_cons_succ, List.set_cons_zero]
      unfold L_law_k01_2
      generalize -2 + (j : Int) = z at ic ⊢
      simp [ic, same_b, clkB])
  obtain ⟨_, l1, s5, rfl⟩ := loop1
  rw [seq_nx (by rw [r_sFor, it1, Option.bind_some]; exact l1)]
  -- things
  obtain ⟨o, ho, to⟩ := odd_ok number
  have s7 : PyData.strOk (PySem.Str.ofString "7") = true := by decide +kernel
  have p30 : powD (.int 10) (.int 30) = some (.int 1000000000000000000000000000000) := by simp [powD]
  have it2 : iSeq (mkLst (aCons (cst (.bool true)) (aCons (cst .none) (aCons (cst (.str (PySem.Str.ofString "7"))) (aCons (mkTup (aCons (cst (.int 7)) aNil)) (aCons (mkLst (aCons (cst (.int 7)) aNil)) (aCons (mkTup aNil) (aCons (callF Pf.F_law_odd (aCons (getV 3) aNil)) (aCons (e2 addD (e2 powD (cst (.int 10)) (cst (.int 30))) (cst (.int 57))) aNil)))))))))
      [.scr ns, vI p, vP a b, vI number, .val (.tuple (PR.map .int)), s5, .unk, .unk] = some (([.bool true, .none, .str (PySem.Str.ofString "7"), .tuple [.int 7], .list [.int 7], .tuple [], o, .int 1000000000000000000000000000057] : List Dt).map id) := by
    unfold iSeq mkLst
    simp only [r_aCons, r_cst, Option.bind_some, r_mkTup1, r_mkLst1, r_mkTup0, r_callF, r_getV, nthS, nth0, r_slV, r_aNil, Option.map_some, ho, r_e2, p30, o_add]
    rfl
  have loop2 := forL_ind (f := id) (g := gSet 5) (B := L_law_k01_1) ([.bool true, .none, .str (PySem.Str.ofString "7"), .tuple [.int 7], .list [.int 7], .tuple [], o, .int 1000000000000000000000000000057] : List Dt)
    (fun _ ρ => ∃ s5 s7, ρ = [.scr ns, vI p, vP a b, vI number, .val (.tuple (PR.map .int)), s5, .unk, s7]) (ρ := [.scr ns, vI p, vP a b, vI number, .val (.tuple (PR.map .int)), s5, .unk, .unk]) ⟨_, _, rfl⟩
    (by
      rintro i x _ hx ⟨s5, s7', rfl⟩
      have hx := List.mem_of_getElem? hx
      have tx : Tm 3 x := by
        simp only [List.mem_cons, List.not_mem_nil, or_false] at hx
        rcases hx with rfl | rfl | rfl | rfl | rfl | rfl | rfl | rfl
        · exact .bool _
        · exact .non
        · exact .str s7
        · exact .tuple fun d hd => by rw [List.mem_singleton.mp hd]; exact .int (b200 (by decide))
        · exact .list fun d hd => by rw [List.mem_singleton.mp hd]; exact .int (b200 (by decide))
        · exact .tuple fun d hd => by cases hd
        · exact to
        · exact .int (by decide +kernel)
      have ic := is_clock_tm tx
      have du := due_clock tx (s0 := .scr ns) (s1 := vI p) (s2 := vP a b) (s3 := vI number) (s6 := .unk) (s7 := s7')
      refine ⟨_, _, rfl, ?_, .val x, .val (.bool (clkB x)), rfl⟩
      simp only [List.set_cons_succ, List.set_cons_zero, id]
      unfold L_law_k01_1
      rw [seq_set du]
      simp only [List.set_cons_succ, List.set_cons_zero]
      simp [ic, same_b])
  obtain ⟨_, l2, s5', s7', rfl⟩ := loop2
  rw [seq_nx (by rw [r_sFor, it2, Option.bind_some]; exact l2)]
  -- curves
  rw [seq_set (d := .tuple [.int a, .int b]) (by simp)]
  simp only [List.set_cons_succ, List.set_cons_zero]
  refine seq_step (P := fun ρ => ∃ d, Tm 5 d ∧ ρ = [.scr ns, vI p, vP a b, vI number, .val (.tuple (PR.map .int)), .val d, .unk, s7']) (R := fun o => o = some (.rt (.bool true))) ?_ ?_
  · by_cases h : number % 4 = 0
    · exact ⟨[.scr ns, vI p, vP a b, vI number, .val (.tuple (PR.map .int)), vP (number / 4 % p) (number / 256 % p), .unk, s7'], by simp (disch := omega) [h, qp], _, (sp (k := 4) (md _ _ (by omega)) (md _ _ (by omega))).tm, rfl⟩
    · exact ⟨_, by simp (disch := omega) [h], _, (sp (k := 4) ⟨a0, a1⟩ ⟨b0, b1⟩).tm, rfl⟩
  rintro _ ⟨d, td, rfl⟩
  refine seq_step (P := fun ρ => ∃ d, Tm 5 d ∧ ρ = [.scr ns, vI p, vP a b, vI number, .val (.tuple (PR.map .int)), .val d, .unk, s7']) (R := fun o => o = some (.rt (.bool true))) ?_ ?_
  · by_cases h : 1 < number % 4
    · have hd := md (number / 4) 3 (by decide)
      obtain ⟨r, e, t⟩ := spoilt_ok (sp (k := 1) ⟨a0, a1⟩ ⟨b0, b1⟩) (mixed ns 3) (deep := number / 4 % 3) (by omega)
      refine ⟨[.scr ns, vI p, vP a b, vI number, .val (.tuple (PR.map .int)), .val r, .unk, s7'], ?_, r, t, rfl⟩
      generalize Pf.F_law_spoilt = Fsp at e ⊢
      simp (disch := omega) [h, F_mixed (ns := ns) (k := 3) (by decide) (by decide), e]
    · exact ⟨_, by simp (disch := omega) [h], d, td, rfl⟩
  rintro _ ⟨d, td, rfl⟩
  have ic := is_curve_tm (p := p) (by omega) td
  rw [seq_if_no (by
    have du := due_curve (p := p) (by omega) td (f := getV 5) (h' := getV 1) (ρ := [.scr ns, vI p, vP a b, vI number, .val (.tuple (PR.map .int)), .val d, .unk, s7']) rfl rfl
    rw [r_tNt, r_tB, r_callF, r_aCons, r_aCons, du]
    simp [ic, same_b])]
  rw [seq_set (d := .list ((ptsM a b p).map tupI)) (by simp [F_law_points_eq c])]
  simp only [List.set_cons_succ, List.set_cons_zero]
  obtain ⟨Q, hQ, hqk⟩ := pick_of (pts_ne a b p) (number / 1024)
  rw [seq_set (d := tupI Q) (by simp (disch := omega) [q0, hqk])]
  simp only [List.set_cons_succ, List.set_cons_zero]
  refine seq_step (P := fun ρ => ∃ d, Si 2 d ∧ ρ = [.scr ns, vI p, vP a b, vI number, .val (.tuple (PR.map .int)), .val d, .val (.list ((ptsM a b p).map tupI)), s7']) (R := fun o => o = some (.rt (.bool true))) ?_ ?_
  · by_cases h : number % 3 = 0
    · exact ⟨[.scr ns, vI p, vP a b, vI number, .val (.tuple (PR.map .int)), vP (number / 3 % p) (number / 256 % p), .val (.list ((ptsM a b p).map tupI)), s7'], by simp (disch := omega) [h, qp], _, sp (k := 1) (md _ _ (by omega)) (md _ _ (by omega)), rfl⟩
    · exact ⟨_, by simp (disch := omega) [h], _, si_pt c (k := 1) hQ, rfl⟩
  rintro _ ⟨d, sd, rfl⟩
  refine seq_step (P := fun ρ => ∃ d, Tm 5 d ∧ ρ = [.scr ns, vI p, vP a b, vI number, .val (.tuple (PR.map .int)), .val d, .val (.list ((ptsM a b p).map tupI)), s7']) (R := fun o => o = some (.rt (.bool true))) ?_ ?_
  · by_cases h : number % 3 = 1
    · have hd := md (number / 3) 3 (by decide)
      obtain ⟨r, e, t⟩ := spoilt_ok sd (mixed ns 4) (deep := number / 3 % 3) (by omega)
      refine ⟨[.scr ns, vI p, vP a b, vI number, .val (.tuple (PR.map .int)), .val r, .val (.list ((ptsM a b p).map tupI)), s7'], ?_, r, t, rfl⟩
      generalize Pf.F_law_spoilt = Fsp at e ⊢
      simp (disch := omega) [h, F_mixed (ns := ns) (k := 4) (by decide) (by decide), e]
    · exact ⟨_, by simp (disch := omega) [h], d, sd.tm.le (by omega), rfl⟩
  rintro _ ⟨d, td, rfl⟩
  have ip := is_point_tm c td (by omega)
  rw [seq_set (due_point (a := a) (b := b) (p := p) td (by omega) rfl rfl rfl)]
  simp only [List.set_cons_succ, List.set_cons_zero]
  simp [ip, same_b]
end Pf

-- part Lm48
set_option maxHeartbeats 1000000
namespace Pf
open PySem Cc L2 TL
/-! ### texts: their signs, their lengths -/
/-- signs that may stand, a length that is not passed -/
def Tx (n : Nat) (z : Str) : Prop := PyData.strOk z = true ∧ z.length ≤ n
theorem sok_iff {z : Str} : PyData.strOk z = true ↔ ∀ c ∈ tl z, c < 0x110000 := by
  unfold PyData.strOk
  rw [Array.all_eq_true']
  constructor
  · intro h c hc
    simpa using h c (by simpa [tl] using hc)
  · intro h c hc
    simpa using h c (by simpa [tl] using hc)
theorem sh_str {z : Str} (h : PyData.strOk z = true) : SeqAt.shaped (.str z) = true := by simp [SeqAt.shaped, PyData.canLay0, PyData.depth, h]
theorem eqS {x y : Str} (hx : PyData.strOk x = true) (hy : PyData.strOk y = true) : eqD (.str x) (.str y) = some (.bool (decide (x = y))) := by
  unfold eqD
  rw [sh_str hx, sh_str hy, Bool.and_self, if_pos rfl, PyData.eqv]
  congr 2
theorem neS {x y : Str} (hx : PyData.strOk x = true) (hy : PyData.strOk y = true) : neD (.str x) (.str y) = some (.bool (!decide (x = y))) := by
  unfold neD
  rw [sh_str hx, sh_str hy, Bool.and_self, if_pos rfl, PyData.eqv]
  congr 3
theorem len_tl' (z : Str) : (tl z).length = z.length := by simp [tl, Str.length]
theorem ok_cut {z : Str} (h : PyData.strOk z = true) (lo hi : Option Int) : PyData.strOk (cutS z lo hi) = true := by
  rw [sok_iff] at h ⊢
  intro c hc
  exact h c (List.mem_of_mem_drop (List.mem_of_mem_take hc))
theorem len_cut (z : Str) (lo hi : Option Int) : (cutS z lo hi).length ≤ z.length := by
  rw [← len_tl', ← len_tl' z]
  show (((tl z).drop _).take _).length ≤ _
  rw [List.length_take, List.length_drop]
  omega
theorem tx_cut {n : Nat} {z : Str} (h : Tx n z) (lo hi : Option Int) : Tx n (cutS z lo hi) := ⟨ok_cut h.1 lo hi, Nat.le_trans (len_cut z lo hi) h.2⟩
theorem tx_app {m n : Nat} {x y : Str} (hx : Tx m x) (hy : Tx n y) : Tx (m + n) (x ++ y) := ⟨ok_app hx.1 hy.1, by rw [Str.length_append]; have := hx.2; have := hy.2; omega⟩
theorem tx_le {m n : Nat} {x : Str} (h : Tx m x) (e : m ≤ n) : Tx n x := ⟨h.1, Nat.le_trans h.2 e⟩
/-- words: their signs, and how long they are together, with one more for each -/
def Wl (n : Nat) (ws : List Str) : Prop := (∀ w ∈ ws, PyData.strOk w = true) ∧ (ws.map (·.length)).sum + ws.length ≤ n
theorem sum_sub {xs ys : List Str} (h : xs.Sublist ys) : (xs.map (·.length)).sum + xs.length ≤ (ys.map (·.length)).sum + ys.length := by
  induction h with
  | slnil => exact Nat.le_refl _
  | cons a h ih => rw [List.map_cons, List.sum_cons, List.length_cons]; omega
  | cons_cons a h ih => rw [List.map_cons, List.sum_cons, List.length_cons, List.map_cons, List.sum_cons, List.length_cons]; omega
theorem cut_sub {α : Type} (xs : List α) (lo hi : Option Int) : (cutL xs lo hi).Sublist xs := by
  unfold cutL
  exact (List.take_sublist _ _).trans (List.drop_sublist _ _)
theorem wl_cut {n : Nat} {ws : List Str} (h : Wl n ws) (lo hi : Option Int) : Wl n (cutL ws lo hi) :=
  ⟨fun w hw => h.1 w ((cut_sub ws lo hi).subset hw), Nat.le_trans (sum_sub (cut_sub ws lo hi)) h.2⟩
theorem wl_app {m n : Nat} {xs ys : List Str} (hx : Wl m xs) (hy : Wl n ys) : Wl (m + n) (xs ++ ys) := by
  refine ⟨fun w hw => (List.mem_append.mp hw).elim (hx.1 w) (hy.1 w), ?_⟩
  have := hx.2; have := hy.2
  rw [List.map_append, List.sum_append, List.length_append]
  omega
theorem wl_rev {n : Nat} {xs : List Str} (hx : Wl n xs) : Wl n xs.reverse := by
  refine ⟨fun w hw => hx.1 w (List.mem_reverse.mp hw), ?_⟩
  have := hx.2
  rw [List.map_reverse, List.sum_reverse, List.length_reverse]
  exact this
theorem wl_set {n : Nat} {xs : List Str} (hx : Wl n xs) (i : Nat) {w : Str} (hw : PyData.strOk w = true) (hl : w.length ≤ 3) : Wl (n + 3) (xs.set i w) := by
  refine ⟨fun v hv => ?_, ?_⟩
  · rcases List.mem_or_eq_of_mem_set hv with h | h
    · exact hx.1 v h
    · rw [h]; exact hw
  · have h2 := hx.2
    rw [List.length_set]
    have : ∀ (xs : List Str) (i : Nat), ((xs.set i w).map (·.length)).sum ≤ (xs.map (·.length)).sum + 3 := by
      intro xs
      induction xs with
      | nil => intro i; simp
      | cons x xs ih =>
        intro i
        cases i with
        | zero => rw [List.set_cons_zero, List.map_cons, List.sum_cons, List.map_cons, List.sum_cons]; omega
        | succ i => rw [List.set_cons_succ, List.map_cons, List.sum_cons, List.map_cons, List.sum_cons]; have := ih i; omega
    have := this xs i
    omega
theorem wl_le {m n : Nat} {ws : List Str} (h : Wl m ws) (e : m ≤ n) : Wl n ws := ⟨h.1, Nat.le_trans h.2 e⟩
/-- a joined text's signs and length -/
theorem join_sum (y : Str) : ∀ ws : List Str, ws ≠ [] → (Str.join y ws).length + y.length = (ws.map (·.length)).sum + ws.length * y.length
  | [], h => absurd rfl h
  | [x], _ => by
    show x.length + y.length = _
    simp
  | x :: z :: r, _ => by
    have ih := join_sum y (z :: r) (by simp)
    show (x ++ y ++ Str.join y (z :: r)).length + y.length = _
    rw [Str.length_append, Str.length_append, List.map_cons, List.sum_cons, List.length_cons, Nat.add_mul]
    omega
theorem mem_join (y : Str) : ∀ (ws : List Str) (w : Str), w ∈ ws → ∀ c ∈ tl w, c ∈ tl (Str.join y ws)
  | [], _, h, _, _ => nomatch h
  | [x], w, h, c, hc => by
    rw [List.mem_singleton.mp h] at hc
    exact hc
  | x :: z :: r, w, h, c, hc => by
    show c ∈ tl (x ++ y ++ Str.join y (z :: r))
    rw [tl_append, tl_append]
    rcases List.mem_cons.mp h with h | h
    · rw [h] at hc
      exact List.mem_append_left _ (List.mem_append_left _ hc)
    · exact List.mem_append_right _ (mem_join y (z :: r) w h c hc)
theorem split_ne (x y : Str) : Txt.split x y ≠ [] := fun h => by
  have := PyProof.Rows.split_pos x y
  rw [h] at this
  exact absurd this (by decide)
theorem split_ok {x y : Str} (h : PyData.strOk x = true) : ∀ w ∈ Txt.split x y, PyData.strOk w = true := fun w hw => by
  rw [sok_iff] at h ⊢
  intro c hc
  have := mem_join y (Txt.split x y) w hw c hc
  rw [StrLaws.join_split] at this
  exact h c this
theorem split_wl {n : Nat} {x y : Str} (h : Tx n x) (hy : y.length = 1) : Wl (n + 1) (Txt.split x y) := by
  refine ⟨split_ok h.1, ?_⟩
  have := join_sum y (Txt.split x y) (split_ne x y)
  rw [StrLaws.join_split, hy, Nat.mul_one] at this
  have := h.2
  omega
theorem split_short {x y : Str} (hy : y.length = 1) : ∀ w ∈ Txt.split x y, w.length ≤ x.length := fun w hw => by
  have h := join_sum y (Txt.split x y) (split_ne x y)
  rw [StrLaws.join_split, hy, Nat.mul_one] at h
  have h2 : ∀ (ws : List Str), w ∈ ws → w.length + ws.length ≤ (ws.map (·.length)).sum + ws.length := by
    intro ws
    induction ws with
    | nil => intro h; cases h
    | cons v vs ih =>
      intro h
      rw [List.map_cons, List.sum_cons, List.length_cons]
      rcases List.mem_cons.mp h with h | h
      · rw [h]; omega
      · have := ih h; omega
  have := h2 _ hw
  have := PyProof.Rows.split_pos x y
  omega
theorem join_tx {n : Nat} {ws : List Str} (h : Wl n ws) (hn : n ≤ 1000000) : joinD (.str (PySem.Str.ofString " ")) (.list (ws.map .str)) = some (.str (Txt.join (PySem.Str.ofString " ") ws)) ∧ Tx n (Txt.join (PySem.Str.ofString " ") ws) := by
  have h1 : (PySem.Str.ofString " ").length = 1 := by decide +kernel
  have h2 := h.2
  constructor
  · unfold joinD
    simp only [strsD_map, Option.bind_some]
    rw [if_pos (by rw [h1]; omega)]
  · rw [join_eq]
    refine ⟨ok_join (by decide +kernel) h.1, ?_⟩
    by_cases e : ws = []
    · subst e
      show Str.empty.length ≤ n
      exact Nat.zero_le _
    · have := join_sum (PySem.Str.ofString " ") ws e
      rw [h1] at this
      omega
end Pf

-- part Lm49
set_option maxHeartbeats 1000000
namespace Pf
open PySem Cc L2 TL
/-! ### a changed text is a text -/
theorem lim_v : Lim = 16777216 := rfl
theorem lenS {n : Nat} {z : Str} (h : Tx n z) (hn : n ≤ 1000000) : lenD [.str z] = some (.int z.length) := if_pos (by have := h.2; rw [lim_v]; omega)
theorem sliceS {n : Nat} {z : Str} (h : Tx n z) (hn : n ≤ 1000000) (lo hi : Option Int) : sliceD (.str z) lo hi = some (.str (cutS z lo hi)) := if_pos (by have := h.2; rw [lim_v]; omega)
theorem addS {m n : Nat} {x y : Str} (hx : Tx m x) (hy : Tx n y) (h : m + n ≤ 1000000) : addD (.str x) (.str y) = some (.str (x ++ y)) := if_pos (by have := hx.2; have := hy.2; rw [lim_v]; omega)
theorem seq_if_nx {t : TF} {A B : SF} {ρ ρ' : Dn} (h : t ρ = some true) (h2 : A ρ = some (.nx ρ')) : sSeq (sIf t A sNil) B ρ = B ρ' := seq_nx (by rw [r_sIf, h]; exact h2)
theorem cut_map {α β : Type} (f : α → β) (xs : List α) (lo hi : Option Int) : cutL (xs.map f) lo hi = (cutL xs lo hi).map f := by
  unfold cutL
  rw [List.length_map, ← List.map_drop, ← List.map_take]
theorem sliceW (ws : List Str) (lo hi : Option Int) : sliceD (.list (ws.map .str)) lo hi = some (.list ((cutL ws lo hi).map .str)) := by
  show some (PyData.list (cutL (ws.map .str) lo hi)) = _
  rw [cut_map]
theorem wl_len {n : Nat} {ws : List Str} (h : Wl n ws) : ws.length ≤ n := by have := h.2; omega
theorem addW {m n : Nat} {xs ys : List Str} (hx : Wl m xs) (hy : Wl n ys) (h : m + n ≤ 1000000) : addD (.list (xs.map .str)) (.list (ys.map .str)) = some (.list ((xs ++ ys).map .str)) := by
  have := wl_len hx; have := wl_len hy
  rw [List.map_append]
  exact if_pos (by rw [List.length_map, List.length_map, lim_v]; omega)
theorem sumW {m n : Nat} {xs ys : List Str} {f h : EF} {ρ : Dn} (hf : f ρ = some (.list (xs.map .str))) (hh : h ρ = some (.list (ys.map .str))) (hx : Wl m xs) (hy : Wl n ys) (e : m + n ≤ 1000000) : sumLD f h ρ = some ((xs ++ ys).map .str) := by
  have := wl_len hx; have := wl_len hy
  unfold sumLD
  rw [hf, Option.bind_some, hh, Option.bind_some, r_asL, Option.bind_some, r_asL, Option.bind_some, List.map_append]
  exact if_pos (by rw [List.length_map, List.length_map, lim_v]; omega)
abbrev letters : Str := PySem.Str.ofString " 0123456789,-far~"
theorem letter_of {i : Int} (h0 : 0 ≤ i) (h1 : i < 17) : ∃ c, ixD (.str letters) (.int i) = some (.str c) ∧ Tx 1 c := by
  have hl : letters.cps.toList.length = 17 := by decide +kernel
  obtain ⟨c, hc, e⟩ := atI_mem (xs := letters.cps.toList) h0 (by rw [hl]; exact h1)
  have ok : ∀ c ∈ letters.cps.toList, c < 0x110000 := by decide +kernel
  refine ⟨⟨#[c]⟩, ?_, ?_, Nat.le_refl 1⟩
  · unfold ixD
    simp only []
    rw [if_pos (show letters.length ≤ Lim by decide +kernel), e]
    rfl
  · rw [sok_iff]
    intro d hd
    have : d = c := by simpa [tl] using hd
    rw [this]; exact ok c hc
abbrev someW : List Str := ["far", "0", "1", "00", "5", "7", "9", "31", "37", "0,0", "1,2", "2,1", ",", "3,", ""].map PySem.Str.ofString
theorem word_of {i : Int} (h0 : 0 ≤ i) (h1 : i < 15) : ∃ w, atI (someW.map PyData.str) i = some (.str w) ∧ PyData.strOk w = true ∧ w.length ≤ 3 := by
  have ok : ∀ w ∈ someW, PyData.strOk w = true ∧ w.length ≤ 3 := by decide +kernel
  obtain ⟨w, hw, e⟩ := atI_mem (xs := someW) h0 (by show i < (15 : Nat); omega)
  exact ⟨w, atI_map PyData.str e, ok w hw⟩
theorem changed_tx {B : Nat} {z : Str} (h : Tx B z) (hB : B ≤ 100000) (n : Int) : ∃ z', F_law_changed [.str z, .int n] = some (.str z') ∧ Tx (3 * B + 30) z' := by
  have sp1 : (PySem.Str.ofString " ").length = 1 := by decide +kernel
  have m8 := md n 8 (by decide)
  have hle : z.length ≤ B := h.2
  generalize hat : n / 16 % ((z.length : Int) + 1) = at'
  obtain ⟨c, hc, tc⟩ := letter_of (i := n / 400 % 17) (md _ 17 (by decide)).1 (md _ 17 (by decide)).2
  have start : ∀ R, R = B_law_changed [.val (.str z), vI n, .unk, .unk, .unk, .unk] → R = (sSeq (sIf (tB' (e2 eqD (e2 modD (getV 1) (cst (.int 8))) (cst (.int 0))))
    (sRet (e2 addD (e2 addD (slcF (getV 0) oNo (oSo (getV 2))) (getV 3)) (slcF (getV 0) (oSo (getV 2)) oNo))) sNil)
    (sSeq (sIf (tB' (e2 eqD (e2 modD (getV 1) (cst (.int 8))) (cst (.int 3))))
    (sRet (e2 addD (slcF (getV 0) oNo (oSo (getV 2))) (slcF (getV 0) (oSo (e2 addD (getV 2) (cst (.int 1)))) oNo))) sNil)
    (sSeq (sIf (tB' (e2 ltD (e2 modD (getV 1) (cst (.int 8))) (cst (.int 3))))
    (sRet (e2 addD (e2 addD (slcF (getV 0) oNo (oSo (getV 2))) (getV 3)) (slcF (getV 0) (oSo (e2 addD (getV 2) (cst (.int 1)))) oNo))) sNil)
    (sSeq (sSetO 4 (splitL (getV 0) (cst (.str (PySem.Str.ofString " ")))))
    (sSeq (sSet 2 (e2 modD (e2 fdivD (getV 1) (cst (.int 16))) (callF lenD (aCons (getW 4) aNil))))
    (sSeq (sIf (tB' (e2 eqD (e2 modD (getV 1) (cst (.int 8))) (cst (.int 4))))
    (sSetO 4 (sumLD (slcF (getW 4) oNo (oSo (getV 2))) (slcF (getW 4) (oSo (e2 addD (getV 2) (cst (.int 1)))) oNo))) sNil)
    (sSeq (sIf (tB' (e2 eqD (e2 modD (getV 1) (cst (.int 8))) (cst (.int 5))))
    (sSetO 4 (sumLD (e2 addD (slcF (getW 4) oNo (oSo (getV 2))) (slcF (getW 4) (oSo (getV 2)) (oSo (e2 addD (getV 2) (cst (.int 1)))))) (slcF (getW 4) (oSo (getV 2)) oNo))) sNil)
    (sSeq (sIf (tB' (e2 eqD (e2 modD (getV 1) (cst (.int 8))) (cst (.int 6))))
    (sSetO 4 (sumLD (e2 addD (slcF (getW 4) oNo (oSo (getV 2))) (e1 revD (slcF (getW 4) (oSo (getV 2)) (oSo (e2 addD (getV 2) (cst (.int 2))))))) (slcF (getW 4) (oSo (e2 addD (getV 2) (cst (.int 2)))) oNo))) sNil)
    (sSeq (sIf (tB' (e2 eqD (e2 modD (getV 1) (cst (.int 8))) (cst (.int 7))))
    (sSeq (sSet 5 (mkLst (aCons (cst (.str (PySem.Str.ofString "far"))) (aCons (cst (.str (PySem.Str.ofString "0"))) (aCons (cst (.str (PySem.Str.ofString "1"))) (aCons (cst (.str (PySem.Str.ofString "00"))) (aCons (cst (.str (PySem.Str.ofString "5"))) (aCons (cst (.str (PySem.Str.ofString "7"))) (aCons (cst (.str (PySem.Str.ofString "9"))) (aCons (cst (.str (PySem.Str.ofString "31"))) (aCons (cst (.str (PySem.Str.ofString "37"))) (aCons (cst (.str (PySem.Str.ofString "0,0"))) (aCons (cst (.str (PySem.Str.ofString "1,2"))) (aCons (cst (.str (PySem.Str.ofString "2,1"))) (aCons (cst (.str (PySem.Str.ofString ","))) (aCons (cst (.str (PySem.Str.ofString "3,"))) (aCons (cst (.str (PySem.Str.ofString ""))) aNil)))))))))))))))))
    (sStore 4 (getV 2) (e2 ixD (getV 5) (e2 modD (e2 fdivD (getV 1) (cst (.int 400))) (cst (.int 15)))))) sNil)
    (sRet (e2 joinD (cst (.str (PySem.Str.ofString " "))) (getW 4))))))))))))
    [.val (.str z), vI n, vI at', .val (.str c), .unk, .unk] := by
    intro R hR
    rw [hR]
    unfold B_law_changed
    have lz := lenS h (by omega)
    rw [seq_set (d := .int at') (by simp (disch := omega) [lz, hat])]
    simp only [List.set_cons_succ, List.set_cons_zero]
    rw [seq_set (d := .str c) (by
      have : modD (.int (n / 400)) (.int 17) = some (.int (n / 400 % 17)) := o_mod (by decide)
      rw [r_e2, r_cst, Option.bind_some]
      simp (disch := omega) [this, hc])]
    simp only [List.set_cons_succ, List.set_cons_zero]
  have e8 : modD (.int n) (.int 8) = some (.int (n % 8)) := o_mod (by decide)
  have cut := fun lo hi => sliceS h (by omega) lo hi
  have tcut := fun lo hi => tx_cut h lo hi
  by_cases h0 : n % 8 = 0
  · refine ⟨(cutS z none (some at') ++ c) ++ cutS z (some at') none, run_rt rfl ((start _ rfl).trans ?_), tx_le (tx_app (tx_app (tcut _ _) tc) (tcut _ _)) (by omega)⟩
    have a1 := addS (tcut none (some at')) tc (by omega)
    have a2 := addS (tx_app (tcut none (some at')) tc) (tcut (some at') none) (by omega)
    rw [seq_if_yes (by simp [e8, h0]) (by simp [cut, a1, a2]; rfl)]
  rw [show (0 : Int) = 0 from rfl] at h0
  by_cases h3 : n % 8 = 3
  · refine ⟨cutS z none (some at') ++ cutS z (some (at' + 1)) none, run_rt rfl ((start _ rfl).trans ?_), tx_le (tx_app (tcut _ _) (tcut _ _)) (by omega)⟩
    have a1 := addS (tcut none (some at')) (tcut (some (at' + 1)) none) (by omega)
    rw [seq_if_no (by simp [e8, h0]), seq_if_yes (by simp [e8, h3]) (by simp [cut, a1]; rfl)]
  by_cases hl : n % 8 < 3
  · refine ⟨(cutS z none (some at') ++ c) ++ cutS z (some (at' + 1)) none, run_rt rfl ((start _ rfl).trans ?_), tx_le (tx_app (tx_app (tcut _ _) tc) (tcut _ _)) (by omega)⟩
    have a1 := addS (tcut none (some at')) tc (by omega)
    have a2 := addS (tx_app (tcut none (some at')) tc) (tcut (some (at' + 1)) none) (by omega)
    rw [seq_if_no (by simp [e8, h0]), seq_if_no (by simp [e8, h3]), seq_if_yes (by simp [e8, hl]) (by simp [cut, a1, a2]; rfl)]
  -- the words
  have W := split_wl h sp1
  have wne := split_ne z (PySem.Str.ofString " ")
  generalize hws : Txt.split z (PySem.Str.ofString " ") = ws at W wne
  have wpos : (0 : Int) < ws.length := by have := List.length_pos_iff.mpr wne; omega
  have sd : splitL (getV 0) (cst (.str (PySem.Str.ofString " "))) [.val (.str z), vI n, vI at', .val (.str c), .unk, .unk] = some (ws.map .str) := by
    unfold splitL
    have : splitD (.str z) (.str (PySem.Str.ofString " ")) = some (.list ((Txt.split z (PySem.Str.ofString " ")).map .str)) := if_pos ⟨by rw [sp1]; rfl, by rw [lim_v]; omega⟩
    simp [this, hws]
  have start2 : ∀ R, R = B_law_changed [.val (.str z), vI n, .unk, .unk, .unk, .unk] → R = (sSeq (sIf (tB' (e2 eqD (e2 modD (getV 1) (cst (.int 8))) (cst (.int 4))))
    (sSetO 4 (sumLD (slcF (getW 4) oNo (oSo (getV 2))) (slcF (getW 4) (oSo (e2 addD (getV 2) (cst (.int 1)))) oNo))) sNil)
    (sSeq (sIf (tB' (e2 eqD (e2 modD (getV 1) (cst (.int 8))) (cst (.int 5))))
    (sSetO 4 (sumLD (e2 addD (slcF (getW 4) oNo (oSo (getV 2))) (slcF (getW 4) (oSo (getV 2)) (oSo (e2 addD (getV 2) (cst (.int 1)))))) (slcF (getW 4) (oSo (getV 2)) oNo))) sNil)
    (sSeq (sIf (tB' (e2 eqD (e2 modD (getV 1) (cst (.int 8))) (cst (.int 6))))
    (sSetO 4 (sumLD (e2 addD (slcF (getW 4) oNo (oSo (getV 2))) (e1 revD (slcF (getW 4) (oSo (getV 2)) (oSo (e2 addD (getV 2) (cst (.int 2))))))) (slcF (getW 4) (oSo (e2 addD (getV 2) (cst (.int 2)))) oNo))) sNil)
    (sSeq (sIf (tB' (e2 eqD (e2 modD (getV 1) (cst (.int 8))) (cst (.int 7))))
    (sSeq (sSet 5 (mkLst (aCons (cst (.str (PySem.Str.ofString "far"))) (aCons (cst (.str (PySem.Str.ofString "0"))) (aCons (cst (.str (PySem.Str.ofString "1"))) (aCons (cst (.str (PySem.Str.ofString "00"))) (aCons (cst (.str (PySem.Str.ofString "5"))) (aCons (cst (.str (PySem.Str.ofString "7"))) (aCons (cst (.str (PySem.Str.ofString "9"))) (aCons (cst (.str (PySem.Str.ofString "31"))) (aCons (cst (.str (PySem.Str.ofString "37"))) (aCons (cst (.str (PySem.Str.ofString "0,0"))) (aCons (cst (.str (PySem.Str.ofString "1,2"))) (aCons (cst (.str (PySem.Str.ofString "2,1"))) (aCons (cst (.str (PySem.Str.ofString ","))) (aCons (cst (.str (PySem.Str.ofString "3,"))) (aCons (cst (.str (PySem.Str.ofString ""))) aNil)))))))))))))))))
    (sStore 4 (getV 2) (e2 ixD (getV 5) (e2 modD (e2 fdivD (getV 1) (cst (.int 400))) (cst (.int 15)))))) sNil)
    (sRet (e2 joinD (cst (.str (PySem.Str.ofString " "))) (getW 4)))))))
    [.val (.str z), vI n, vI (n / 16 % (ws.length : Int)), .val (.str c), .own (ws.map .str), .unk] := by
    intro R hR
    refine (start R hR).trans ?_
    rw [seq_if_no (by simp [e8, h0]), seq_if_no (by simp [e8, h3]), seq_if_no (by simp [e8, hl]), seq_nx (ρ' := [.val (.str z), vI n, vI at', .val (.str c), .own (ws.map .str), .unk]) (by
      show (splitL (getV 0) (cst (.str (PySem.Str.ofString " "))) _).map _ = _
      rw [sd]; rfl)]
    have md2 : modD (.int (n / 16)) (.int (ws.length : Int)) = some (.int (n / 16 % (ws.length : Int))) := o_mod wpos
    rw [seq_set (d := .int (n / 16 % (ws.length : Int))) (by simp (disch := omega) [md2])]
    simp only [List.set_cons_succ, List.set_cons_zero]
  have aa := md (n / 16) (ws.length : Int) wpos
  generalize n / 16 % (ws.length : Int) = k at start2 aa
  have wc := fun lo hi => wl_cut W lo hi
  have fin : ∀ {m : Nat} {vs : List Str} (s5 : Sl), Wl m vs → m ≤ 3 * B + 30 → ∃ z', (sRet (e2 joinD (cst (.str (PySem.Str.ofString " "))) (getW 4))) [.val (.str z), vI n, vI k, .val (.str c), .own (vs.map .str), s5] = some (.rt (.str z')) ∧ Tx (3 * B + 30) z' := fun {m vs} s5 hv hm => by
    obtain ⟨j1, j2⟩ := join_tx hv (by omega)
    exact ⟨_, by simp [j1], tx_le j2 hm⟩
  by_cases h4 : n % 8 = 4
  · have sm := sumW (f := slcF (getW 4) oNo (oSo (getV 2))) (h := slcF (getW 4) (oSo (e2 addD (getV 2) (cst (.int 1)))) oNo) (ρ := [.val (.str z), vI n, vI k, .val (.str c), .own (ws.map .str), .unk]) (xs := cutL ws none (some k)) (ys := cutL ws (some (k + 1)) none) (by simp [sliceW]) (by simp [sliceW]) (wc _ _) (wc _ _) (by omega)
    obtain ⟨z', q1, q2⟩ := fin .unk (wl_app (wc none (some k)) (wc (some (k + 1)) none)) (by omega)
    refine ⟨z', run_rt rfl ((start2 _ rfl).trans ?_), q2⟩
    rw [seq_if_nx (ρ' := [.val (.str z), vI n, vI k, .val (.str c), .own ((cutL ws none (some k) ++ cutL ws (some (k + 1)) none).map .str), .unk]) (by simp [e8, h4]) (by
      show (sumLD _ _ _).map _ = _
      rw [sm]; rfl), seq_if_no (by simp [e8, h4]), seq_if_no (by simp [e8, h4]), seq_if_no (by simp [e8, h4])]
    exact q1
  by_cases h5 : n % 8 = 5
  · have s1 := addW (wc none (some k)) (wc (some k) (some (k + 1))) (by omega)
    have sm := sumW (f := e2 addD (slcF (getW 4) oNo (oSo (getV 2))) (slcF (getW 4) (oSo (getV 2)) (oSo (e2 addD (getV 2) (cst (.int 1)))))) (h := slcF (getW 4) (oSo (getV 2)) oNo) (ρ := [.val (.str z), vI n, vI k, .val (.str c), .own (ws.map .str), .unk]) (xs := cutL ws none (some k) ++ cutL ws (some k) (some (k + 1))) (ys := cutL ws (some k) none) (by
      simp only [List.map_append] at s1 ⊢
      simp [sliceW, s1]) (by simp [sliceW]) (wl_app (wc _ _) (wc _ _)) (wc _ _) (by omega)
    obtain ⟨z', q1, q2⟩ := fin .unk (wl_app (wl_app (wc none (some k)) (wc (some k) (some (k + 1)))) (wc (some k) none)) (by omega)
    refine ⟨z', run_rt rfl ((start2 _ rfl).trans ?_), q2⟩
    rw [seq_if_no (by simp [e8, h5]), seq_if_nx (ρ' := [.val (.str z), vI n, vI k, .val (.str c), .own ((cutL ws none (some k) ++ cutL ws (some k) (some (k + 1)) ++ cutL ws (some k) none).map .str), .unk]) (by simp [e8, h5]) (by
      show (sumLD _ _ _).map _ = _
      rw [sm]; rfl), seq_if_no (by simp [e8, h5]), seq_if_no (by simp [e8, h5])]
    exact q1
  by_cases h6 : n % 8 = 6
  · have s1 := addW (wc none (some k)) (wl_rev (wc (some k) (some (k + 2)))) (by omega)
    have sm := sumW (f := e2 addD (slcF (getW 4) oNo (oSo (getV 2))) (e1 revD (slcF (getW 4) (oSo (getV 2)) (oSo (e2 addD (getV 2) (cst (.int 2))))))) (h := slcF (getW 4) (oSo (e2 addD (getV 2) (cst (.int 2)))) oNo) (ρ := [.val (.str z), vI n, vI k, .val (.str c), .own (ws.map .str), .unk]) (xs := cutL ws none (some k) ++ (cutL ws (some k) (some (k + 2))).reverse) (ys := cutL ws (some (k + 2)) none) (by
      simp only [List.map_append, List.map_reverse] at s1 ⊢
      simp [sliceW, s1, revD]) (by simp [sliceW]) (wl_app (wc _ _) (wl_rev (wc _ _))) (wc _ _) (by omega)
    obtain ⟨z', q1, q2⟩ := fin .unk (wl_app (wl_app (wc none (some k)) (wl_rev (wc (some k) (some (k + 2))))) (wc (some (k + 2)) none)) (by omega)
    refine ⟨z', run_rt rfl ((start2 _ rfl).trans ?_), q2⟩
    rw [seq_if_no (by simp [e8, h6]), seq_if_no (by simp [e8, h6]), seq_if_nx (ρ' := [.val (.str z), vI n, vI k, .val (.str c), .own ((cutL ws none (some k) ++ (cutL ws (some k) (some (k + 2))).reverse ++ cutL ws (some (k + 2)) none).map .str), .unk]) (by simp [e8, h6]) (by
      show (sumLD _ _ _).map _ = _
      rw [sm]; rfl), seq_if_no (by simp [e8, h6])]
    exact q1
  have h7 : n % 8 = 7 := by omega
  obtain ⟨w, w1, w2, w3⟩ := word_of (i := n / 400 % 15) (md _ 15 (by decide)).1 (md _ 15 (by decide)).2
  have ik : ixN (ws.map PyData.str).length k = some k.toNat := by
    unfold ixN
    rw [List.length_map, if_pos aa.1, if_pos aa.2]
  obtain ⟨z', q1, q2⟩ := fin (.val (.list (someW.map .str))) (wl_set W k.toNat w2 w3) (by omega)
  refine ⟨z', run_rt rfl ((start2 _ rfl).trans ?_), q2⟩
  rw [seq_if_no (by simp [e8, h7]), seq_if_no (by simp [e8, h7]), seq_if_no (by simp [e8, h7]), seq_if_nx (ρ' := [.val (.str z), vI n, vI k, .val (.str c), .own ((ws.set k.toNat w).map .str), .val (.list (someW.map .str))]) (by simp [e8, h7]) (by
    rw [seq_set (d := .list (someW.map .str)) rfl]
    simp only [List.set_cons_succ, List.set_cons_zero]
    unfold sStore
    have ml : modD (.int (n / 400)) (.int 15) = some (.int (n / 400 % 15)) := o_mod (by decide)
    have fe : (e2 ixD (getV 5) (e2 modD (e2 fdivD (getV 1) (cst (.int 400))) (cst (.int 15)))) [.val (.str z), vI n, vI k, .val (.str c), .own (ws.map .str), .val (.list (someW.map .str))] = some (.str w) := by
      rw [r_e2]
      simp (disch := omega) only [r_getV, nth0, nthS, r_slV, Option.bind_some, r_e2, r_cst, o_fdiv, ml, o_ixL, w1]
    show ((e2 ixD (getV 5) (e2 modD (e2 fdivD (getV 1) (cst (.int 400))) (cst (.int 15)))) _).bind _ = _
    rw [fe, Option.bind_some]
    show (asI (some (.int k))).bind _ = _
    rw [r_asI, Option.bind_some, ik, Option.map_some, List.map_set]
    rfl)]
  exact q1
end Pf

-- part Lm50
set_option maxHeartbeats 1000000
namespace Pf
open PySem Cc L2 TL
/-! ### either told, or raised -/
def Bth (B : SF) (P : Dn → Prop) (ρ : Dn) : Option Dt → Prop
  | none => P ρ
  | some d => B ρ = some (.rt d) ∧ ¬ P ρ
def zIf (t : TF) (P : Dn → Prop) : Dn → Prop := fun ρ => (t ρ = some true ∧ True) ∨ ∃ ρ', (sIf t sNever sNil) ρ = some (.nx ρ') ∧ P ρ'
def zThen (st : SF) (P : Dn → Prop) : Dn → Prop := fun ρ => ∃ ρ', st ρ = some (.nx ρ') ∧ P ρ'
def zOr (A P : Dn → Prop) : Dn → Prop := fun ρ => A ρ ∨ P ρ
section
variable {B : SF} {P A : Dn → Prop} {t : TF} {ρ : Dn} {o : Option Dt} {f : EF} {i : Nat} {d : Dt}
theorem bth_if_raise (h : t ρ = some true) : Bth (sSeq (sIf t sNever sNil) B) (zIf t P) ρ none := .inl ⟨h, trivial⟩
theorem bth_if_go (h : t ρ = some false) (k : Bth B P ρ o) : Bth (sSeq (sIf t sNever sNil) B) (zIf t P) ρ o := by
  have h1 : (sIf t sNever sNil) ρ = some (.nx ρ) := by rw [r_sIf, h]; rfl
  cases o with
  | none => exact .inr ⟨ρ, h1, k⟩
  | some d =>
    refine ⟨by rw [seq_nx h1]; exact k.1, fun z => ?_⟩
    rcases z with z | ⟨ρ', z1, z2⟩
    · rw [h] at z; cases z.1
    · rw [h1] at z1; cases z1; exact k.2 z2
theorem bth_set (h : f ρ = some d) (k : Bth B P (ρ.set i (.val d)) o) : Bth (sSeq (sSet i f) B) (zThen (sSet i f) P) ρ o := by
  have h1 : (sSet i f) ρ = some (.nx (ρ.set i (.val d))) := set_eq h
  cases o with
  | none => exact ⟨_, h1, k⟩
  | some e =>
    refine ⟨by rw [seq_nx h1]; exact k.1, fun ⟨ρ', z1, z2⟩ => ?_⟩
    rw [h1] at z1; cases z1; exact k.2 z2
theorem bth_raise (h : A ρ) : Bth B (zOr A P) ρ none := .inl h
theorem bth_or (h : ¬ A ρ) (k : Bth B P ρ o) : Bth B (zOr A P) ρ o := by
  cases o with
  | none => exact .inr k
  | some d => exact ⟨k.1, fun z => z.elim h k.2⟩
end
/-! ### number_of -/
abbrev figs : Str := PySem.Str.ofString "0123456789"
def numOk (w : Str) : Bool := (decide (1 ≤ w.length) && decide (w.length ≤ 2)) && (tl w).all fun c => decide (c ∈ tl figs)
def numO (w : Str) : Option Int := if numOk w then PySem.intText? w else none
theorem num_test {w : Str} (h : Tx 100000 w) (s1 : Sl) : (tOrr (tNt (tB' (vChn leD leD (cst (.int 1)) (callF lenD (aCons (getV 0) aNil)) (cst (.int 2))))) (tNt (tB' (callF allD (aCons (lstF (lcF (iStrD (getV 0)) [1] (gSet 1) tYesD E_number_of_1)) aNil))))) [.val (.str w), s1] = some (!numOk w) := by
  have l1 := lenS h (by omega)
  have hl := h.2
  have e : lcF (iStrD (getV 0)) [1] (gSet 1) tYesD E_number_of_1 [.val (.str w), s1] = some (((tl w).map fun c => decide (c ∈ tl figs)).map .bool) := by
    rw [r_lcF]
    have it : iStrD (getV 0) [.val (.str w), s1] = some ((tl w).map fun c => PyData.str ⟨#[c]⟩) := rfl
    rw [it, Option.bind_some, if_pos (by rw [List.length_map, len_tl']; omega), lcL_map (f := fun c : Nat => PyData.str ⟨#[c]⟩) (fun c => .bool (decide (c ∈ tl figs))) (tl w) fun c _ => ⟨_, rfl, rfl, rfl⟩, List.map_map]
    rfl
  have e2 : (callF allD (aCons (lstF (lcF (iStrD (getV 0)) [1] (gSet 1) tYesD E_number_of_1)) aNil)) [.val (.str w), s1] = some (.bool ((tl w).all fun c => decide (c ∈ tl figs))) := by
    rw [r_callF, r_aCons, r_lstF, e, Option.map_some, Option.bind_some, r_aNil, Option.map_some, Option.bind_some, allD_b, List.all_map]
    rfl
  have e3 : (vChn leD leD (cst (.int 1)) (callF lenD (aCons (getV 0) aNil)) (cst (.int 2))) [.val (.str w), s1] = some (.bool (decide (1 ≤ w.length) && decide (w.length ≤ 2))) := by
    unfold vChn
    have z1 : leD (.int 1) (.int (w.length : Int)) = some (.bool (decide ((1 : Int) ≤ (w.length : Int)))) := rfl
    have z2 : leD (.int (w.length : Int)) (.int 2) = some (.bool (decide ((w.length : Int) ≤ 2))) := rfl
    rw [r_cst, Option.bind_some, r_callF, r_aCons, r_getV, nth0, r_slV, Option.bind_some, r_aNil, Option.map_some, Option.bind_some, l1, Option.bind_some, z1]
    show (if decide ((1 : Int) ≤ (w.length : Int)) then (some (PyData.int 2)).bind fun z => leD (.int (w.length : Int)) z else some (.bool false)) = _
    by_cases q : 1 ≤ w.length
    · rw [if_pos (by rw [decide_eq_true_eq]; omega), Option.bind_some, z2]
      congr 2
      rw [Bool.eq_iff_iff]; simp [q]; omega
    · rw [if_neg (by rw [decide_eq_true_eq]; omega)]
      simp [q]
  rw [r_tOr, r_tNt, r_tB, e3, r_tNt, r_tB, e2]
  unfold numOk
  cases (decide (1 ≤ w.length) && decide (w.length ≤ 2)) <;> simp [asB]
theorem Z_num_eq (d : Dt) : Z_number_of [d] = (1 = 1 ∧ ((tOrr (tNt (tB' (vChn leD leD (cst (.int 1)) (callF lenD (aCons (getV 0) aNil)) (cst (.int 2))))) (tNt (tB' (callF allD (aCons (lstF (lcF (iStrD (getV 0)) [1] (gSet 1) tYesD E_number_of_1)) aNil))))) [.val d, .unk] = some true ∧ True)) := rfl
theorem num1 : ∀ c ∈ tl figs, PySem.intText? ⟨#[c]⟩ = some ((c : Int) - 48) ∧ 48 ≤ c ∧ c ≤ 57 := by decide +kernel
theorem num2 : ∀ c ∈ tl figs, ∀ d ∈ tl figs, PySem.intText? ⟨#[c, d]⟩ = some (((c : Int) - 48) * 10 + ((d : Int) - 48)) := by decide +kernel
theorem numOk_int {w : Str} (h : numOk w = true) : ∃ n, PySem.intText? w = some n ∧ 0 ≤ n ∧ n < 100 := by
  unfold numOk at h
  rw [Bool.and_eq_true, Bool.and_eq_true, decide_eq_true_eq, decide_eq_true_eq, List.all_eq_true] at h
  obtain ⟨⟨h1, h2⟩, h3⟩ := h
  rw [← len_tl'] at h1 h2
  obtain ⟨l, hl⟩ : ∃ l, tl w = l := ⟨_, rfl⟩
  have ew : w = ⟨l.toArray⟩ := by rw [← hl]
  rw [hl] at h1 h2 h3
  match l, h1, h2 with
  | [c], _, _ =>
    have hc := of_decide_eq_true (h3 c List.mem_cons_self)
    obtain ⟨q1, q2, q3⟩ := num1 c hc
    exact ⟨_, by rw [ew]; exact q1, by omega, by omega⟩
  | [c, d], _, _ =>
    have hc := of_decide_eq_true (h3 c List.mem_cons_self)
    have hd := of_decide_eq_true (h3 d (List.mem_cons_of_mem _ List.mem_cons_self))
    obtain ⟨_, q2, q3⟩ := num1 c hc
    obtain ⟨_, q4, q5⟩ := num1 d hd
    exact ⟨_, by rw [ew]; exact num2 c hc d hd, by omega, by omega⟩
theorem numO_some {w : Str} {n : Int} (h : numO w = some n) : 0 ≤ n ∧ n < 100 := by
  unfold numO at h
  split at h
  · next q =>
    obtain ⟨m, e, b⟩ := numOk_int q
    rw [e] at h; cases h; exact b
  · cases h
theorem number_some {w : Str} (h : Tx 100000 w) {n : Int} (e : numO w = some n) : F_number_of [.str w] = some (.int n) ∧ ¬ Z_number_of [.str w] := by
  unfold numO at e
  split at e
  · next q =>
    have nt := num_test h .unk
    rw [q] at nt
    constructor
    · refine run_rt rfl ?_
      show B_number_of [.val (.str w), .unk] = _
      unfold B_number_of
      rw [seq_nx (ρ' := [.val (.str w), .unk]) (by rw [r_sIf, nt]; rfl)]
      have : intSD [.str w] = some (.int n) := by
        show (if w.length ≤ 640 then _ else none) = _
        have h2 : w.length ≤ 2 := by
          unfold numOk at q
          simp only [Bool.and_eq_true, decide_eq_true_eq] at q
          exact q.1.2
        rw [if_pos (by omega), e]; rfl
      simp [this]
    · rw [Z_num_eq, nt]
      rintro ⟨_, z, _⟩
      cases z
  · cases e
theorem number_none {w : Str} (h : Tx 100000 w) (e : numO w = none) : Z_number_of [.str w] := by
  have nt := num_test h .unk
  have q : numOk w = false := by
    unfold numO at e
    cases hq : numOk w with
    | false => rfl
    | true =>
      rw [hq, if_pos rfl] at e
      obtain ⟨n, e2, _⟩ := numOk_int hq
      rw [e2] at e; cases e
  rw [q] at nt
  rw [Z_num_eq, nt]
  exact ⟨rfl, rfl, trivial⟩
theorem numO_num : ∀ i ∈ rng 32, numO (numT i) = some i := by decide +kernel
/-! ### point_of -/
abbrev farS : Str := PySem.Str.ofString "far"
abbrev comS : Str := PySem.Str.ofString ","
def ptL : List Str → Option (List Int)
  | [u, v] => (numO u).bind fun x => (numO v).map fun y => [x, y]
  | _ => none
def ptO (w : Str) : Option (List Int) := if w = farS then some [] else ptL (Txt.split w comS)
theorem ptO_some {w : Str} {t : List Int} (h : ptO w = some t) : t = [] ∨ ∃ x y, t = [x, y] ∧ (0 ≤ x ∧ x < 100) ∧ (0 ≤ y ∧ y < 100) := by
  unfold ptO at h
  split at h
  · cases h; exact .inl rfl
  · unfold ptL at h
    split at h
    · next u v _ =>
      obtain ⟨x, hx, h⟩ := Option.bind_eq_some_iff.mp h
      obtain ⟨y, hy, rfl⟩ := Option.map_eq_some_iff.mp h
      exact .inr ⟨x, y, rfl, numO_some hx, numO_some hy⟩
    · cases h
def zA : Dn → Prop := fun ρ => (∃ ds, (aCons (e2 ixD (getV 1) (cst (.int 0))) aNil) ρ = some ds ∧ Z_number_of ds) ∨ ((∃ d, (callF F_number_of (aCons (e2 ixD (getV 1) (cst (.int 0))) aNil)) ρ = some d) ∧ ∃ ds, (aCons (e2 ixD (getV 1) (cst (.int 1))) aNil) ρ = some ds ∧ Z_number_of ds)
theorem Z_pt_eq (d : Dt) : Z_point_of [d] = (1 = 1 ∧ zThen (sIf (tB' (e2 eqD (getV 0) (cst (.str farS)))) (sRet (mkTup aNil)) sNil) (zThen (sSet 1 (e2 splitD (getV 0) (cst (.str comS)))) (zIf (tB' (e2 neD (callF lenD (aCons (getV 1) aNil)) (cst (.int 2)))) zA)) [.val d, .unk]) := rfl
theorem pt_bth {w : Str} (h : Tx 100000 w) : Bth B_point_of (zThen (sIf (tB' (e2 eqD (getV 0) (cst (.str farS)))) (sRet (mkTup aNil)) sNil) (zThen (sSet 1 (e2 splitD (getV 0) (cst (.str comS)))) (zIf (tB' (e2 neD (callF lenD (aCons (getV 1) aNil)) (cst (.int 2)))) zA))) [.val (.str w), .unk] ((ptO w).map tupI) := by
  have eq := eqS (x := w) (y := farS) h.1 (by decide +kernel)
  have c1 : comS.length = 1 := by decide +kernel
  by_cases hw : w = farS
  · have t1 : (tB' (e2 eqD (getV 0) (cst (.str farS)))) [.val (.str w), .unk] = some true := by
      simp only [r_tB, r_e2, r_getV, nth0, r_slV, Option.bind_some, r_cst, eq]
      simp [hw, asB]
    have e : ptO w = some [] := if_pos hw
    rw [e]
    refine ⟨?_, ?_⟩
    · unfold B_point_of
      exact seq_if_yes t1 (by simp [tupI])
    · rintro ⟨ρ', z1, _⟩
      rw [r_sIf, t1] at z1
      simp at z1
  · have t1 : (tB' (e2 eqD (getV 0) (cst (.str farS)))) [.val (.str w), .unk] = some false := by simp [eq, hw]
    have s1 : (sIf (tB' (e2 eqD (getV 0) (cst (.str farS)))) (sRet (mkTup aNil)) sNil) [.val (.str w), .unk] = some (.nx [.val (.str w), .unk]) := by rw [r_sIf, t1]; rfl
    have hl := h.2
    obtain ⟨ps, hps⟩ : ∃ ps, Txt.split w comS = ps := ⟨_, rfl⟩
    have sd : splitD (.str w) (.str comS) = some (.list (ps.map .str)) := by rw [← hps]; exact if_pos ⟨by rw [c1]; rfl, by rw [lim_v]; omega⟩
    have tx : ∀ u ∈ ps, Tx 100000 u := fun u hu => by
      rw [← hps] at hu
      exact ⟨split_ok h.1 u hu, Nat.le_trans (split_short c1 u hu) hl⟩
    have e : ptO w = ptL ps := by
      unfold ptO
      rw [if_neg hw, hps]
    have wrap : ∀ o, Bth (sSeq (sSet 1 (e2 splitD (getV 0) (cst (.str comS)))) (sSeq (sIf (tB' (e2 neD (callF lenD (aCons (getV 1) aNil)) (cst (.int 2)))) sNever sNil)
        (sRet (mkTup (aCons (callF F_number_of (aCons (e2 ixD (getV 1) (cst (.int 0))) aNil)) (aCons (callF F_number_of (aCons (e2 ixD (getV 1) (cst (.int 1))) aNil)) aNil))))))
        (zThen (sSet 1 (e2 splitD (getV 0) (cst (.str comS)))) (zIf (tB' (e2 neD (callF lenD (aCons (getV 1) aNil)) (cst (.int 2)))) zA)) [.val (.str w), .unk] o →
        Bth B_point_of (zThen (sIf (tB' (e2 eqD (getV 0) (cst (.str farS)))) (sRet (mkTup aNil)) sNil) (zThen (sSet 1 (e2 splitD (getV 0) (cst (.str comS)))) (zIf (tB' (e2 neD (callF lenD (aCons (getV 1) aNil)) (cst (.int 2)))) zA))) [.val (.str w), .unk] o := by
      intro o k
      cases o with
      | none => exact ⟨_, s1, k⟩
      | some d =>
        refine ⟨?_, ?_⟩
        · unfold B_point_of
          rw [seq_nx s1]
          exact k.1
        · rintro ⟨ρ', z1, z2⟩
          rw [s1] at z1; cases z1
          exact k.2 z2
    refine wrap _ (bth_set (d := .list (ps.map .str)) (by simp [sd]) ?_)
    simp only [List.set_cons_succ, List.set_cons_zero]
    have two : (tB' (e2 neD (callF lenD (aCons (getV 1) aNil)) (cst (.int 2)))) [.val (.str w), .val (.list (ps.map .str))] = some (!decide ((ps.length : Int) = 2)) := by simp
    by_cases h2 : ps.length = 2
    · refine bth_if_go (by rw [two, h2]; rfl) ?_
      match ps, h2, tx, e with
      | [u, v], _, tx, e =>
        have tu := tx u (by simp)
        have tv := tx v (by simp)
        rw [e]
        show Bth _ _ _ (((numO u).bind fun x => (numO v).map fun y => [x, y]).map tupI)
        have a0 : (aCons (e2 ixD (getV 1) (cst (.int 0))) aNil) [.val (.str w), .val (.list ([u, v].map .str))] = some [.str u] := by simp
        have a1 : (aCons (e2 ixD (getV 1) (cst (.int 1))) aNil) [.val (.str w), .val (.list ([u, v].map .str))] = some [.str v] := by simp
        cases hu : numO u with
        | none => exact .inl ⟨_, a0, number_none tu hu⟩
        | some x =>
          obtain ⟨u1, u2⟩ := number_some tu hu
          have f0 : (callF F_number_of (aCons (e2 ixD (getV 1) (cst (.int 0))) aNil)) [.val (.str w), .val (.list ([u, v].map .str))] = some (.int x) := by rw [r_callF, a0, Option.bind_some, u1]
          cases hv : numO v with
          | none => exact .inr ⟨⟨_, f0⟩, _, a1, number_none tv hv⟩
          | some y =>
            obtain ⟨v1, v2⟩ := number_some tv hv
            have f1 : (callF F_number_of (aCons (e2 ixD (getV 1) (cst (.int 1))) aNil)) [.val (.str w), .val (.list ([u, v].map .str))] = some (.int y) := by rw [r_callF, a1, Option.bind_some, v1]
            refine ⟨?_, ?_⟩
            · rw [r_sRet]
              unfold mkTup
              rw [r_aCons, f0, Option.bind_some, r_aCons, f1, Option.bind_some, r_aNil]
              rfl
            · rintro (⟨ds, z1, z2⟩ | ⟨_, ds, z1, z2⟩)
              · rw [a0] at z1; cases z1; exact u2 z2
              · rw [a1] at z1; cases z1; exact v2 z2
    · have e0 : ptO w = none := by
        rw [e]
        unfold ptL
        split
        · next u v => exact absurd rfl h2
        · rfl
      rw [e0]
      exact bth_if_raise (by rw [two]; simp; omega)
theorem point_some {w : Str} (h : Tx 100000 w) {t : List Int} (e : ptO w = some t) : F_point_of [.str w] = some (tupI t) ∧ ¬ Z_point_of [.str w] := by
  have k := pt_bth h
  rw [e] at k
  refine ⟨run_rt rfl k.1, ?_⟩
  rw [Z_pt_eq]
  exact fun z => k.2 z.2
theorem point_none {w : Str} (h : Tx 100000 w) (e : ptO w = none) : Z_point_of [.str w] := by
  have k := pt_bth h
  rw [e] at k
  rw [Z_pt_eq]
  exact ⟨rfl, k⟩
theorem num_com : ∀ i ∈ rng 32, 44 ∉ tl (numT i) := by decide +kernel
theorem num_blank : ∀ i ∈ rng 32, 32 ∉ tl (numT i) := by decide +kernel
theorem ptO_pt {a b p : Int} (c : Cv p a b) {t : List Int} (h : t ∈ ptsM a b p) : ptO (ptT t) = some t ∧ 32 ∉ tl (ptT t) := by
  have p1 := c.p1
  rcases mem_pts.mp h with rfl | ⟨x, y, rfl, hx, hy, _⟩
  · exact ⟨by decide +kernel, by decide +kernel⟩
  · have mx : x ∈ rng 32 := mem_rng.mpr (by omega)
    have my : y ∈ rng 32 := mem_rng.mpr (by omega)
    have e : ptT [x, y] = (numT x ++ comS) ++ numT y := rfl
    have tc : tl comS = [44] := by decide +kernel
    have ec : 44 ∈ tl (ptT [x, y]) := by
      rw [e, tl_append, tl_append, tc]
      simp
    have nf : ptT [x, y] ≠ farS := fun z => by
      rw [z] at ec
      exact absurd ec (by decide +kernel)
    have sp : Txt.split (ptT [x, y]) comS = [numT x, numT y] := by
      have := split_join (y := comS) (s := 44) (S := []) tc (by decide +kernel) (parts := [numT x, numT y]) (by simp) (fun q hq => by
        rcases List.mem_cons.mp hq with rfl | hq
        · exact num_com x mx
        · rw [List.mem_singleton.mp hq]; exact num_com y my)
      rw [join_eq] at this
      exact this
    refine ⟨?_, ?_⟩
    · unfold ptO
      rw [if_neg nf, sp]
      unfold ptL
      simp [numO_num x mx, numO_num y my]
    · rw [e, tl_append, tl_append, tc]
      simp [num_blank x mx, num_blank y my]
end Pf

-- part Lm51
set_option maxHeartbeats 1000000
namespace Pf
open PySem Cc L2 TL
/-! ### read -/
def allO {α : Type} : List (Option α) → Option (List α)
  | [] => some []
  | none :: _ => none
  | some x :: r => (allO r).map (x :: ·)
theorem allO_some {α β : Type} {f : α → Option β} : ∀ {l : List α} {ts : List β}, allO (l.map f) = some ts → l.length = ts.length ∧ (∀ w ∈ l, ∃ t, f w = some t ∧ t ∈ ts) ∧ (∀ t ∈ ts, ∃ w ∈ l, f w = some t) ∧ ∀ d : β, l.map (fun w => (f w).getD d) = ts
  | [], ts, h => by
    cases h
    exact ⟨rfl, fun _ h => (nomatch h), fun _ h => (nomatch h), fun _ => rfl⟩
  | w :: l, ts, h => by
    rw [List.map_cons] at h
    cases hw : f w with
    | none => rw [hw] at h; cases h
    | some t =>
      rw [hw] at h
      obtain ⟨us, hu, rfl⟩ := Option.map_eq_some_iff.mp (show (allO (l.map f)).map (t :: ·) = some ts from h)
      obtain ⟨h1, h2, h3, h4⟩ := allO_some hu
      refine ⟨by rw [List.length_cons, List.length_cons, h1], fun v hv => ?_, fun v hv => ?_, fun d => by rw [List.map_cons, hw, h4 d]; rfl⟩
      · rcases List.mem_cons.mp hv with rfl | hv
        · exact ⟨t, hw, List.mem_cons_self⟩
        · obtain ⟨t', e1, e2⟩ := h2 v hv
          exact ⟨t', e1, List.mem_cons_of_mem _ e2⟩
      · rcases List.mem_cons.mp hv with rfl | hv
        · exact ⟨w, List.mem_cons_self, hw⟩
        · obtain ⟨w', e1, e2⟩ := h3 v hv
          exact ⟨w', List.mem_cons_of_mem _ e1, e2⟩
theorem allO_none {α β : Type} {f : α → Option β} : ∀ {l : List α}, allO (l.map f) = none → ∃ pre w post, l = pre ++ w :: post ∧ f w = none ∧ ∃ ts, allO (pre.map f) = some ts
  | [], h => by cases h
  | w :: l, h => by
    cases hw : f w with
    | none => exact ⟨[], w, l, rfl, hw, [], rfl⟩
    | some t =>
      rw [List.map_cons, hw] at h
      have h : (allO (l.map f)).map (t :: ·) = none := h
      cases hl : allO (l.map f) with
      | some us => rw [hl] at h; cases h
      | none =>
        obtain ⟨pre, v, post, rfl, e, ts, ht⟩ := allO_none hl
        exact ⟨w :: pre, v, post, rfl, e, t :: ts, by rw [List.map_cons, hw]; show (allO (pre.map f)).map (t :: ·) = _; rw [ht]; rfl⟩
theorem allO_of {α β : Type} {f : α → Option β} {g : β → α} : ∀ {ts : List β}, (∀ t ∈ ts, f (g t) = some t) → allO ((ts.map g).map f) = some ts
  | [], _ => rfl
  | t :: ts, h => by
    rw [List.map_cons, List.map_cons, h t List.mem_cons_self]
    show (allO ((ts.map g).map f)).map (t :: ·) = _
    rw [allO_of fun u hu => h u (List.mem_cons_of_mem _ hu)]; rfl
abbrev blank : Str := PySem.Str.ofString " "
abbrev rT1 : TF := tNt (tB' (e1 isStr (getV 0)))
abbrev rT2 : TF := tNt (tB' (vChn leD leD (cst (.int 3)) (callF lenD (aCons (getV 1) aNil)) (e2 addD (cst (.int 3)) (cst C_MOST))))
abbrev rT3 : TF := tOrr (tNt (tB' (callF F_is_clock (aCons (getV 2) aNil)))) (tOrr (tNt (tB' (callF F_is_curve (aCons (getV 3) (aCons (getV 2) aNil))))) (tNt (tB' (callF allD (aCons (lstF (lcF (iSeq (getV 4)) [6] (gSet 6) tYesD E_read_1)) aNil)))))
abbrev rT4 : TF := tB' (e2 neD (callF F_written (aCons (getV 2) (aCons (getV 3) (aCons (getV 4) aNil)))) (getV 0))
abbrev rN (k : Int) : AF := aCons (e2 ixD (getV 1) (cst (.int k))) aNil
abbrev rS2 : SF := sSet 2 (callF F_number_of (rN 0))
abbrev rS3 : SF := sSet 3 (mkTup (aCons (callF F_number_of (rN 1)) (aCons (callF F_number_of (rN 2)) aNil)))
abbrev rS4 : SF := sSet 4 (callF tupleD (aCons (lstF (lcF (iSeq (slcF (getV 1) (oSo (cst (.int 3))) oNo)) [5] (gSet 5) tYesD E_read_2)) aNil))
abbrev rA1 : Dn → Prop := fun ρ => ∃ ds, rN 0 ρ = some ds ∧ Z_number_of ds
abbrev rA2 : Dn → Prop := fun ρ => (∃ ds, rN 1 ρ = some ds ∧ Z_number_of ds) ∨ ((∃ d, (callF F_number_of (rN 1)) ρ = some d) ∧ ∃ ds, rN 2 ρ = some ds ∧ Z_number_of ds)
abbrev rA3 : Dn → Prop := fun ρ => ∃ pre x post acc ρ1, (iSeq (slcF (getV 1) (oSo (cst (.int 3))) oNo)) ρ = some (pre ++ x :: post) ∧ pre.length ≤ 100000 ∧ lcL (gSet 5) tYesD E_read_2 (wipeD ρ [5]) pre = some acc ∧ (gSet 5) x (wipeD ρ [5]) = some ρ1 ∧ ∃ ds, (aCons (getV 5) aNil) ρ1 = some ds ∧ Z_point_of ds
abbrev rTail : SF := sSeq (sIf rT3 sNever sNil) (sSeq (sIf rT4 sNever sNil) (sRet (mkTup (aCons (getV 2) (aCons (getV 3) (aCons (getV 4) aNil))))))
abbrev rPtail : Dn → Prop := zIf rT3 fun ρ => rT4 ρ = some true ∧ True
abbrev rP : Dn → Prop := zIf rT1 (zThen (sSet 1 (e2 splitD (getV 0) (cst (.str blank)))) (zIf rT2 (zOr rA1 (zThen rS2 (zOr rA2 (zThen rS3 (zOr rA3 (zThen rS4 rPtail))))))))
theorem Z_read_eq (d : Dt) : Z_read [d] = (1 = 1 ∧ rP [.val d, .unk, .unk, .unk, .unk, .unk, .unk]) := rfl
theorem B_read_eq : B_read = sSeq (sIf rT1 sNever sNil) (sSeq (sSet 1 (e2 splitD (getV 0) (cst (.str blank)))) (sSeq (sIf rT2 sNever sNil) (sSeq rS2 (sSeq rS3 (sSeq rS4 rTail))))) := rfl

/-! the end: what is read is looked at -/
theorem rs_tail {z : Str} {p a b : Int} {ts : List (List Int)} {s1 s5 s6 : Sl} (hz : PyData.strOk z = true) (c : Cv p a b) (h : ∀ t ∈ ts, t ∈ ptsM a b p) (hl : ts.length ≤ 40) :
    Bth rTail rPtail [.val (.str z), s1, vI p, vP a b, .val (.tuple (ts.map tupI)), s5, s6] (if textM p a b ts = z then some (.tuple [.int p, .tuple [.int a, .int b], .tuple (ts.map tupI)]) else none) := by
  have p0 := c.p0; have p1 := c.p1; have a0 := c.a0; have a1 := c.a1; have b0 := c.b0; have b1 := c.b1
  have big : ∀ i : Int, 0 ≤ i → i < 100 → i.natAbs < 2 ^ 200 := fun i h0 h1 => Nat.lt_of_lt_of_le (show i.natAbs < 100 by omega) (by decide +kernel)
  have ck := is_clock_tm (k := 0) (d := .int p) (.int (big p (by omega) (by omega)))
  have ckv : clkB (.int p) = true := decide_eq_true c.pm
  rw [ckv] at ck
  have tc : Tm 1 (.tuple [.int a, .int b]) := tm_tupI (t := [a, b]) (fun i hi => by
    rcases List.mem_cons.mp hi with rfl | hi
    · exact big _ a0 (by omega)
    · rw [List.mem_singleton.mp hi]; exact big _ b0 (by omega)) (by simp)
  have cv := is_curve_tm (p := p) (pr_b c.pm) tc
  have cvv : cvB p (.tuple [.int a, .int b]) = true := by
    show (numsB p (.tuple [.int a, .int b]) && goodM a b p) = true
    rw [c.gd]
    simp [numsB, numB, a0, a1, b0, b1]
  rw [cvv] at cv
  have al := all_lc (ds := ts.map tupI) (i := 6) (f := getV 4) (e := E_read_1) (ρ := [.val (.str z), s1, vI p, vP a b, .val (.tuple (ts.map tupI)), s5, s6]) (v := fun _ => true) (by simp [itemsD]) (by rw [List.length_map]; omega) fun d hd => by
    obtain ⟨t, ht, rfl⟩ := List.mem_map.mp hd
    have := is_point_pt c (h t ht)
    unfold E_read_1
    generalize Pf.F_is_point = Fp at this ⊢
    simp [wipeD, this]
  have alv : (ts.map tupI).all (fun _ => true) = true := by simp
  rw [alv] at al
  refine bth_if_go ?_ ?_
  · have e1 : (callF F_is_clock (aCons (getV 2) aNil)) [.val (.str z), s1, vI p, vP a b, .val (.tuple (ts.map tupI)), s5, s6] = some (.bool true) := by
      generalize Pf.F_is_clock = Fc at ck ⊢
      simp [ck]
    have e2 : (callF F_is_curve (aCons (getV 3) (aCons (getV 2) aNil))) [.val (.str z), s1, vI p, vP a b, .val (.tuple (ts.map tupI)), s5, s6] = some (.bool true) := by
      generalize Pf.F_is_curve = Fc at cv ⊢
      simp [cv]
    unfold rT3
    rw [r_tOr, r_tNt, r_tB, e1]
    simp only [r_tOr, r_tNt, r_tB, e2, al]
    simp [asB]
  · have w := F_written_eq c h (by omega)
    have tk := text_ok c h
    have ne := neS tk hz
    have t4 : rT4 [.val (.str z), s1, vI p, vP a b, .val (.tuple (ts.map tupI)), s5, s6] = some (!decide (textM p a b ts = z)) := by
      unfold rT4
      rw [r_tB, r_e2]
      have e1 : (callF F_written (aCons (getV 2) (aCons (getV 3) (aCons (getV 4) aNil)))) [.val (.str z), s1, vI p, vP a b, .val (.tuple (ts.map tupI)), s5, s6] = some (.str (textM p a b ts)) := by
        generalize Pf.F_written = Fw at w ⊢
        simp [w]
      rw [e1, Option.bind_some]
      simp [ne, asB]
    by_cases q : textM p a b ts = z
    · rw [if_pos q]
      refine ⟨?_, ?_⟩
      · rw [seq_nx (ρ' := [.val (.str z), s1, vI p, vP a b, .val (.tuple (ts.map tupI)), s5, s6]) (by rw [r_sIf, t4, decide_eq_true q]; rfl)]
        simp [tupI]
      · show ¬ (rT4 _ = some true ∧ True)
        rw [t4, decide_eq_true q]
        rintro ⟨z1, _⟩
        cases z1
    · rw [if_neg q]
      show rT4 _ = some true ∧ True
      rw [t4, decide_eq_false q]
      exact ⟨rfl, trivial⟩
/-- a curve's numbers with points, or none -/
theorem rs_any {z : Str} {p a b : Int} {ts : List (List Int)} {s1 s5 s6 : Sl} (hz : PyData.strOk z = true) (hp : 0 ≤ p ∧ p < 100) (ha : 0 ≤ a ∧ a < 100) (hb : 0 ≤ b ∧ b < 100) (ht : ∀ t ∈ ts, t = [] ∨ ∃ x y, t = [x, y] ∧ (0 ≤ x ∧ x < 100) ∧ (0 ≤ y ∧ y < 100)) (hl : ts.length ≤ 40) :
    ∃ o, Bth rTail rPtail [.val (.str z), s1, vI p, vP a b, .val (.tuple (ts.map tupI)), s5, s6] o ∧ ∀ d, o = some d → Cv p a b ∧ (∀ t ∈ ts, t ∈ ptsM a b p) ∧ textM p a b ts = z ∧ d = .tuple [.int p, .tuple [.int a, .int b], .tuple (ts.map tupI)] := by
  have big : ∀ i : Int, 0 ≤ i ∧ i < 100 → i.natAbs < 2 ^ 200 := fun i h => Nat.lt_of_lt_of_le (show i.natAbs < 100 by omega) (by decide +kernel)
  by_cases good : Cv p a b ∧ ∀ t ∈ ts, t ∈ ptsM a b p
  · obtain ⟨c, h⟩ := good
    refine ⟨_, rs_tail hz c h hl, fun d hd => ?_⟩
    split at hd
    · next q => cases hd; exact ⟨c, h, q, rfl⟩
    · cases hd
  · refine ⟨none, bth_if_raise ?_, fun d hd => by cases hd⟩
    have ck := is_clock_tm (k := 0) (d := .int p) (.int (big p hp))
    have e1 : (callF F_is_clock (aCons (getV 2) aNil)) [.val (.str z), s1, vI p, vP a b, .val (.tuple (ts.map tupI)), s5, s6] = some (.bool (clkB (.int p))) := by
      generalize Pf.F_is_clock = Fc at ck ⊢
      simp [ck]
    unfold rT3
    rw [r_tOr, r_tNt, r_tB, e1]
    by_cases hpr : p ∈ PR
    · have ckv : clkB (.int p) = true := decide_eq_true hpr
      have tc : Tm 1 (.tuple [.int a, .int b]) := tm_tupI (t := [a, b]) (fun i hi => by
        rcases List.mem_cons.mp hi with rfl | hi
        · exact big _ ha
        · rw [List.mem_singleton.mp hi]; exact big _ hb) (by simp)
      have cv := is_curve_tm (p := p) (pr_b hpr) tc
      have e2 : (callF F_is_curve (aCons (getV 3) (aCons (getV 2) aNil))) [.val (.str z), s1, vI p, vP a b, .val (.tuple (ts.map tupI)), s5, s6] = some (.bool (cvB p (.tuple [.int a, .int b]))) := by
        generalize Pf.F_is_curve = Fc at cv ⊢
        simp [cv]
      cases hcv : cvB p (.tuple [.int a, .int b]) with
      | false =>
        simp only [r_tOr, r_tNt, r_tB, e2, hcv, ckv]
        simp [asB]
      | true =>
        have c : Cv p a b := by
          have h0 : (numsB p (.tuple [.int a, .int b]) && goodM a b p) = true := hcv
          rw [Bool.and_eq_true] at h0
          obtain ⟨x, y, e, hx, hy⟩ := numsB_iff.mp h0.1
          cases e
          exact ⟨hpr, hx.1, hx.2, hy.1, hy.2, h0.2⟩
        have al := all_lc (ds := ts.map tupI) (i := 6) (f := getV 4) (e := E_read_1) (ρ := [.val (.str z), s1, vI p, vP a b, .val (.tuple (ts.map tupI)), s5, s6]) (v := ptB a b p) (by simp [itemsD]) (by rw [List.length_map]; omega) fun d hd => by
          obtain ⟨t, hm, rfl⟩ := List.mem_map.mp hd
          have tt : Tm 1 (tupI t) := tm_tupI (fun i hi => by
            rcases ht t hm with rfl | ⟨x, y, rfl, hx, hy⟩
            · cases hi
            · rcases List.mem_cons.mp hi with rfl | hi
              · exact big _ hx
              · rw [List.mem_singleton.mp hi]; exact big _ hy) (by
            rcases ht t hm with rfl | ⟨x, y, rfl, _⟩ <;> simp)
          have := is_point_tm c tt (by decide)
          unfold E_read_1
          generalize Pf.F_is_point = Fp at this ⊢
          simp [wipeD, this]
        have alv : (ts.map tupI).all (ptB a b p) = false := by
          rw [Bool.eq_false_iff]
          intro hall
          rw [List.all_eq_true] at hall
          refine good ⟨c, fun t hm => ?_⟩
          obtain ⟨t', h1, h2⟩ := ptB_iff.mp (hall (tupI t) (List.mem_map.mpr ⟨t, hm, rfl⟩))
          have : t = t' := by
            have e := eqv_tupI t t'
            rw [h2, eqv_tupI, decide_eq_true rfl] at e
            exact of_decide_eq_true e.symm
          rw [this]; exact h1
        rw [alv] at al
        simp only [r_tOr, r_tNt, r_tB, e2, hcv, ckv, al]
        simp [asB]
    · have ckv : clkB (.int p) = false := decide_eq_false hpr
      rw [ckv]
      simp [asB]
end Pf

-- part Lm52
set_option maxHeartbeats 1000000
namespace Pf
open PySem Cc L2 TL
theorem cut3 {α : Type} {x y z : α} {xs : List α} : cutL (x :: y :: z :: xs) (some 3) none = xs := by
  have e : ∀ k : Nat, (HT.sIx (k + 1 + 1 + 1) 0 (some 3)) = 3 := by intro k; simp [HT.sIx]
  have e2 : ∀ k : Nat, (HT.sIx k k none) = k := by intro k; simp [HT.sIx]
  unfold cutL
  rw [e2, List.length_cons, List.length_cons, List.length_cons, e]
  simp
section
variable {z : Str} {ws rest : List Str} {w0 w1 w2 : Str}
abbrev r0 (z : Str) : Dn := [.val (.str z), .unk, .unk, .unk, .unk, .unk, .unk]
theorem two_test (z : Str) (ws : List Str) : rT2 [.val (.str z), .val (.list (ws.map .str)), .unk, .unk, .unk, .unk, .unk] = some (!(decide (3 ≤ ws.length) && decide (ws.length ≤ 43))) := by
  unfold rT2
  rw [r_tNt, r_tB]
  have e3 : (vChn leD leD (cst (.int 3)) (callF lenD (aCons (getV 1) aNil)) (e2 addD (cst (.int 3)) (cst C_MOST))) [.val (.str z), .val (.list (ws.map .str)), .unk, .unk, .unk, .unk, .unk] = some (.bool (decide (3 ≤ ws.length) && decide (ws.length ≤ 43))) := by
    unfold vChn
    have l1 : (callF lenD (aCons (getV 1) aNil)) [.val (.str z), .val (.list (ws.map .str)), .unk, .unk, .unk, .unk, .unk] = some (.int (ws.length : Int)) := by simp
    have z1 : leD (.int 3) (.int (ws.length : Int)) = some (.bool (decide ((3 : Int) ≤ (ws.length : Int)))) := rfl
    have z2 : leD (.int (ws.length : Int)) (.int 43) = some (.bool (decide ((ws.length : Int) ≤ 43))) := rfl
    have z3 : (e2 addD (cst (.int 3)) (cst C_MOST)) [.val (.str z), .val (.list (ws.map .str)), .unk, .unk, .unk, .unk, .unk] = some (.int 43) := rfl
    rw [r_cst, Option.bind_some, l1, Option.bind_some, z1]
    show (if decide ((3 : Int) ≤ (ws.length : Int)) then ((e2 addD (cst (.int 3)) (cst C_MOST)) _).bind fun z => leD (.int (ws.length : Int)) z else some (.bool false)) = _
    by_cases q : 3 ≤ ws.length
    · rw [if_pos (by rw [decide_eq_true_eq]; omega), z3, Option.bind_some, z2]
      congr 2
      rw [Bool.eq_iff_iff]; simp [q]; omega
    · rw [if_neg (by rw [decide_eq_true_eq]; omega)]
      simp [q]
  rw [e3]
  cases (decide (3 ≤ ws.length) && decide (ws.length ≤ 43)) <;> rfl
/-- the beginning, up to the words -/
theorem rs_words (h : Tx 100000 z) (hw : Txt.split z blank = ws) {o : Option Dt} (k : Bth (sSeq (sIf rT2 sNever sNil) (sSeq rS2 (sSeq rS3 (sSeq rS4 rTail)))) (zIf rT2 (zOr rA1 (zThen rS2 (zOr rA2 (zThen rS3 (zOr rA3 (zThen rS4 rPtail))))))) [.val (.str z), .val (.list (ws.map .str)), .unk, .unk, .unk, .unk, .unk] o) : Bth B_read rP (r0 z) o := by
  rw [B_read_eq]
  have b1 : blank.length = 1 := by decide +kernel
  have hl := h.2
  refine bth_if_go rfl (bth_set (d := .list (ws.map .str)) ?_ ?_)
  · have : splitD (.str z) (.str blank) = some (.list (ws.map .str)) := by rw [← hw]; exact if_pos ⟨by rw [b1]; rfl, by rw [lim_v]; omega⟩
    simp [this]
  · exact k
/-- the rest of it -/
theorem rs_rest (h : Tx 100000 z) (hw : Txt.split z blank = w0 :: w1 :: w2 :: rest) (hr : rest.length ≤ 40) :
    (Bth B_read rP (r0 z) none ∧ (numO w0 = none ∨ numO w1 = none ∨ numO w2 = none ∨ allO (rest.map ptO) = none)) ∨
    ∃ p a b ts, numO w0 = some p ∧ numO w1 = some a ∧ numO w2 = some b ∧ allO (rest.map ptO) = some ts ∧ ∃ s1, ∀ o, Bth rTail rPtail [.val (.str z), s1, vI p, vP a b, .val (.tuple (ts.map tupI)), .unk, .unk] o → Bth B_read rP (r0 z) o := by
  have b1 : blank.length = 1 := by decide +kernel
  have tx : ∀ w ∈ w0 :: w1 :: w2 :: rest, Tx 100000 w := fun w hm => by
    rw [← hw] at hm
    exact ⟨split_ok h.1 w hm, Nat.le_trans (split_short b1 w hm) h.2⟩
  have t0 := tx w0 (by simp)
  have t1 := tx w1 (by simp)
  have t2 := tx w2 (by simp)
  have tr : ∀ w ∈ rest, Tx 100000 w := fun w hm => tx w (by simp [hm])
  have go : ∀ {o : Option Dt}, Bth (sSeq rS2 (sSeq rS3 (sSeq rS4 rTail))) (zOr rA1 (zThen rS2 (zOr rA2 (zThen rS3 (zOr rA3 (zThen rS4 rPtail)))))) [.val (.str z), .val (.list ((w0 :: w1 :: w2 :: rest).map .str)), .unk, .unk, .unk, .unk, .unk] o → Bth B_read rP (r0 z) o := fun {o} k =>
    rs_words h hw (bth_if_go (by
      rw [two_test]
      have : (decide (3 ≤ (w0 :: w1 :: w2 :: rest).length) && decide ((w0 :: w1 :: w2 :: rest).length ≤ 43)) = true := by
        simp only [List.length_cons, Bool.and_eq_true, decide_eq_true_eq]; omega
      rw [this]; rfl) k)
  have n0 : ∀ s2 s3 s4, rN 0 [.val (.str z), .val (.list ((w0 :: w1 :: w2 :: rest).map .str)), s2, s3, s4, .unk, .unk] = some [.str w0] := fun _ _ _ => by simp
  have n1 : ∀ s2 s3 s4, rN 1 [.val (.str z), .val (.list ((w0 :: w1 :: w2 :: rest).map .str)), s2, s3, s4, .unk, .unk] = some [.str w1] := fun _ _ _ => by simp
  have n2 : ∀ s2 s3 s4, rN 2 [.val (.str z), .val (.list ((w0 :: w1 :: w2 :: rest).map .str)), s2, s3, s4, .unk, .unk] = some [.str w2] := fun _ _ _ => by simp
  cases e0 : numO w0 with
  | none => exact .inl ⟨go (bth_raise ⟨_, n0 _ _ _, number_none t0 e0⟩), .inl rfl⟩
  | some p =>
    obtain ⟨f0, g0⟩ := number_some t0 e0
    have c0 : ∀ s2 s3 s4, (callF F_number_of (rN 0)) [.val (.str z), .val (.list ((w0 :: w1 :: w2 :: rest).map .str)), s2, s3, s4, .unk, .unk] = some (.int p) := fun _ _ _ => by rw [r_callF, n0, Option.bind_some, f0]
    have go2 : ∀ {o : Option Dt}, Bth (sSeq rS3 (sSeq rS4 rTail)) (zOr rA2 (zThen rS3 (zOr rA3 (zThen rS4 rPtail)))) [.val (.str z), .val (.list ((w0 :: w1 :: w2 :: rest).map .str)), vI p, .unk, .unk, .unk, .unk] o → Bth B_read rP (r0 z) o := fun {o} k =>
      go (bth_or (fun ⟨ds, z1, z2⟩ => by rw [n0] at z1; cases z1; exact g0 z2) (bth_set (d := .int p) (c0 _ _ _) k))
    cases e1 : numO w1 with
    | none => exact .inl ⟨go2 (bth_raise (.inl ⟨_, n1 _ _ _, number_none t1 e1⟩)), .inr (.inl rfl)⟩
    | some a =>
      obtain ⟨f1, g1⟩ := number_some t1 e1
      have c1 : ∀ s2 s3 s4, (callF F_number_of (rN 1)) [.val (.str z), .val (.list ((w0 :: w1 :: w2 :: rest).map .str)), s2, s3, s4, .unk, .unk] = some (.int a) := fun _ _ _ => by rw [r_callF, n1, Option.bind_some, f1]
      cases e2' : numO w2 with
      | none => exact .inl ⟨go2 (bth_raise (.inr ⟨⟨_, c1 _ _ _⟩, _, n2 _ _ _, number_none t2 e2'⟩)), .inr (.inr (.inl rfl))⟩
      | some b =>
        obtain ⟨f2, g2⟩ := number_some t2 e2'
        have c2 : ∀ s2 s3 s4, (callF F_number_of (rN 2)) [.val (.str z), .val (.list ((w0 :: w1 :: w2 :: rest).map .str)), s2, s3, s4, .unk, .unk] = some (.int b) := fun _ _ _ => by rw [r_callF, n2, Option.bind_some, f2]
        have go3 : ∀ {o : Option Dt}, Bth (sSeq rS4 rTail) (zOr rA3 (zThen rS4 rPtail)) [.val (.str z), .val (.list ((w0 :: w1 :: w2 :: rest).map .str)), vI p, vP a b, .unk, .unk, .unk] o → Bth B_read rP (r0 z) o := fun {o} k =>
          go2 (bth_or (fun q => by
            rcases q with ⟨ds, z1, z2⟩ | ⟨_, ds, z1, z2⟩
            · rw [n1] at z1; cases z1; exact g1 z2
            · rw [n2] at z1; cases z1; exact g2 z2) (bth_set (d := .tuple [.int a, .int b]) (by
              unfold mkTup
              rw [r_aCons, c1, Option.bind_some, r_aCons, c2, Option.bind_some, r_aNil]
              rfl) k))
        have it : (iSeq (slcF (getV 1) (oSo (cst (.int 3))) oNo)) [.val (.str z), .val (.list ((w0 :: w1 :: w2 :: rest).map .str)), vI p, vP a b, .unk, .unk, .unk] = some (rest.map .str) := by
          have := sliceW (w0 :: w1 :: w2 :: rest) (some 3) none
          rw [cut3] at this
          rw [r_iSeq, r_slcF, r_getV, nthS, nth0, r_slV, Option.bind_some, r_oSo, r_cst, r_asI, Option.map_some, Option.bind_some, r_oNo, Option.bind_some, this]
          rfl
        have part : ∀ (pre : List Str) (us : List (List Int)), (∀ w ∈ pre, Tx 100000 w) → allO (pre.map ptO) = some us → lcL (gSet 5) tYesD E_read_2 (wipeD [.val (.str z), .val (.list ((w0 :: w1 :: w2 :: rest).map .str)), vI p, vP a b, .unk, .unk, .unk] [5]) (pre.map .str) = some (us.map tupI) := by
          intro pre us hp hu
          obtain ⟨_, a2, _, a4⟩ := allO_some hu
          rw [lcL_map (f := PyData.str) (fun w => tupI ((ptO w).getD [])) pre fun w hm => ⟨_, rfl, rfl, ?_⟩, ← a4 [], List.map_map]
          · rfl
          · obtain ⟨t, ht, _⟩ := a2 w hm
            obtain ⟨q1, _⟩ := point_some (hp w hm) ht
            rw [ht]
            unfold E_read_2
            generalize Pf.F_point_of = Fp at q1 ⊢
            simp [wipeD, q1]
        cases e3 : allO (rest.map ptO) with
        | none =>
          refine .inl ⟨go3 (bth_raise ?_), .inr (.inr (.inr rfl))⟩
          obtain ⟨pre, w, post, er, hw', us, hu⟩ := allO_none e3
          have hm : ∀ v ∈ pre, Tx 100000 v := fun v hv => tr v (by rw [er]; exact List.mem_append_left _ hv)
          refine ⟨pre.map .str, .str w, post.map .str, us.map tupI, _, ?_, ?_, part pre us hm hu, rfl, [.str w], ?_, point_none (tr w (by rw [er]; simp)) hw'⟩
          · rw [it, er, List.map_append, List.map_cons]
          · have : pre.length ≤ rest.length := by rw [er, List.length_append]; omega
            rw [List.length_map]; omega
          · simp [wipeD]
        | some ts =>
          refine .inr ⟨p, a, b, ts, rfl, rfl, rfl, rfl, _, fun o k => go3 (bth_or ?_ (bth_set (d := .tuple (ts.map tupI)) ?_ k))⟩
          · rintro ⟨pre, x, post, acc, ρ1, z1, _, _, z4, ds, z5, z6⟩
            rw [it] at z1
            have hx : x ∈ rest.map PyData.str := by
              rw [Option.some.inj z1]; simp
            obtain ⟨w, hm, rfl⟩ := List.mem_map.mp hx
            have hρ : ρ1 = [.val (.str z), .val (.list ((w0 :: w1 :: w2 :: rest).map .str)), vI p, vP a b, .unk, .val (.str w), .unk] := (Option.some.inj z4).symm
            rw [hρ] at z5
            have hds : ds = [.str w] := by
              have : (aCons (getV 5) aNil) [.val (.str z), .val (.list ((w0 :: w1 :: w2 :: rest).map .str)), vI p, vP a b, .unk, .val (.str w), .unk] = some [.str w] := by simp
              rw [this] at z5; exact (Option.some.inj z5).symm
            rw [hds] at z6
            obtain ⟨_, a2, _, _⟩ := allO_some e3
            obtain ⟨t, ht, _⟩ := a2 w hm
            exact (point_some (tr w hm) ht).2 z6
          · have := part rest ts tr e3
            rw [r_callF, r_aCons, r_lstF, r_lcF, it, Option.bind_some, if_pos (by rw [List.length_map]; omega), this]
            rfl
theorem rs_short (h : Tx 100000 z) (hw : Txt.split z blank = ws) (hn : ¬ (3 ≤ ws.length ∧ ws.length ≤ 43)) : Bth B_read rP (r0 z) none :=
  rs_words h hw (bth_if_raise (by
    rw [two_test]
    have : (decide (3 ≤ ws.length) && decide (ws.length ≤ 43)) = false := by
      rw [Bool.eq_false_iff]
      intro q
      rw [Bool.and_eq_true, decide_eq_true_eq, decide_eq_true_eq] at q
      exact hn q
    rw [this]; rfl))
/-- a text is refused, or read to a curve and points whose text it is -/
theorem read_any (h : Tx 100000 z) : Z_read [.str z] ∨ ∃ p a b ts, Cv p a b ∧ (∀ t ∈ ts, t ∈ ptsM a b p) ∧ ts.length ≤ 40 ∧ textM p a b ts = z ∧ F_read [.str z] = some (.tuple [.int p, .tuple [.int a, .int b], .tuple (ts.map tupI)]) := by
  rw [Z_read_eq]
  obtain ⟨ws, hw⟩ : ∃ ws, Txt.split z blank = ws := ⟨_, rfl⟩
  by_cases hn : 3 ≤ ws.length ∧ ws.length ≤ 43
  · match ws, hn, hw with
    | w0 :: w1 :: w2 :: rest, hn, hw =>
      have hr : rest.length ≤ 40 := by have := hn.2; simp only [List.length_cons] at this; omega
      rcases rs_rest h hw hr with ⟨k, _⟩ | ⟨p, a, b, ts, n0, n1, n2, n3, s1, k⟩
      · exact .inl ⟨rfl, k⟩
      · obtain ⟨a1, a2, a3, _⟩ := allO_some n3
        have hl : ts.length ≤ 40 := by omega
        obtain ⟨o, ho, hd⟩ := rs_any (s1 := s1) (s5 := .unk) (s6 := .unk) h.1 (numO_some n0) (numO_some n1) (numO_some n2) (fun t ht => by
          obtain ⟨w, _, e⟩ := a3 t ht
          exact ptO_some e) hl
        have kk := k o ho
        cases o with
        | none => exact .inl ⟨rfl, kk⟩
        | some d =>
          obtain ⟨c, hp, ht, rfl⟩ := hd d rfl
          exact .inr ⟨p, a, b, ts, c, hp, hl, ht, run_rt rfl kk.1⟩
  · exact .inl ⟨rfl, rs_short h hw hn⟩
end
section
variable {p a b : Int} {ts : List (List Int)}
theorem split_text (c : Cv p a b) (h : ∀ t ∈ ts, t ∈ ptsM a b p) : Txt.split (textM p a b ts) blank = numT p :: numT a :: numT b :: ts.map ptT := by
  have p0 := c.p0; have p1 := c.p1; have a0 := c.a0; have a1 := c.a1; have b0 := c.b0; have b1 := c.b1
  refine split_join (y := blank) (s := 32) (S := []) (by decide +kernel) (by decide +kernel) (by simp) fun q hq => ?_
  rcases List.mem_append.mp hq with hq | hq
  · simp only [List.mem_cons, List.not_mem_nil, or_false] at hq
    rcases hq with rfl | rfl | rfl
    · exact num_blank p (mem_rng.mpr (by omega))
    · exact num_blank a (mem_rng.mpr (by omega))
    · exact num_blank b (mem_rng.mpr (by omega))
  · obtain ⟨t, ht, rfl⟩ := List.mem_map.mp hq
    exact (ptO_pt c (h t ht)).2
theorem text_tx (c : Cv p a b) (h : ∀ t ∈ ts, t ∈ ptsM a b p) (hl : ts.length ≤ 41) : Tx 300 (textM p a b ts) := by
  have p0 := c.p0; have p1 := c.p1; have a0 := c.a0; have a1 := c.a1; have b0 := c.b0; have b1 := c.b1
  refine ⟨text_ok c h, ?_⟩
  have lp := numT_len p (mem_rng.mpr (by omega))
  have la := numT_len a (mem_rng.mpr (by omega))
  have lb := numT_len b (mem_rng.mpr (by omega))
  have s1 : ∀ us : List (List Int), (∀ t ∈ us, t ∈ ptsM a b p) → ((us.map ptT).map (·.length)).sum ≤ us.length * 5 := by
    intro us
    induction us with
    | nil => intro _; simp
    | cons u us ih =>
      intro hu
      have := ih fun t ht => hu t (List.mem_cons_of_mem _ ht)
      have := (F_pt_text c (hu u List.mem_cons_self)).2
      rw [List.map_cons, List.map_cons, List.sum_cons, List.length_cons]
      omega
  have s2 := s1 ts h
  have js := join_sum blank ([numT p, numT a, numT b] ++ ts.map ptT) (by simp)
  have b1 : blank.length = 1 := by decide +kernel
  have e : textM p a b ts = Str.join blank ([numT p, numT a, numT b] ++ ts.map ptT) := join_eq _ _
  rw [e]
  rw [b1, List.map_append, List.sum_append, List.length_append] at js
  simp only [List.map_cons, List.map_nil, List.sum_cons, List.sum_nil, List.length_cons, List.length_nil, List.length_map, List.map_map] at js s2
  omega
/-- a text that was written is read back -/
theorem read_back (c : Cv p a b) (h : ∀ t ∈ ts, t ∈ ptsM a b p) (hl : ts.length ≤ 40) : ¬ Z_read [.str (textM p a b ts)] ∧ F_read [.str (textM p a b ts)] = some (.tuple [.int p, .tuple [.int a, .int b], .tuple (ts.map tupI)]) := by
  have p0 := c.p0; have p1 := c.p1; have a0 := c.a0; have a1 := c.a1; have b0 := c.b0; have b1 := c.b1
  have tx : Tx 100000 (textM p a b ts) := tx_le (text_tx c h (by omega)) (by decide)
  have hw := split_text c h
  have m0 := numO_num p (mem_rng.mpr (by omega))
  have m1 := numO_num a (mem_rng.mpr (by omega))
  have m2 := numO_num b (mem_rng.mpr (by omega))
  have m3 : allO ((ts.map ptT).map ptO) = some ts := allO_of fun t ht => (ptO_pt c (h t ht)).1
  rcases rs_rest tx hw (by rw [List.length_map]; exact hl) with ⟨_, q⟩ | ⟨p', a', b', ts', n0, n1, n2, n3, s1, k⟩
  · rw [m0, m1, m2, m3] at q
    rcases q with q | q | q | q <;> cases q
  · rw [m0] at n0; cases n0
    rw [m1] at n1; cases n1
    rw [m2] at n2; cases n2
    rw [m3] at n3; cases n3
    have t := rs_tail (s1 := s1) (s5 := .unk) (s6 := .unk) tx.1 c h hl
    rw [if_pos rfl] at t
    have kk := k _ t
    refine ⟨?_, run_rt rfl kk.1⟩
    rw [Z_read_eq]
    exact fun q => kk.2 q.2
/-- one point too many -/
theorem read_41 (c : Cv p a b) (h : ∀ t ∈ ts, t ∈ ptsM a b p) (hl : ts.length = 41) : Z_read [.str (textM p a b ts)] := by
  have tx : Tx 100000 (textM p a b ts) := tx_le (text_tx c h (by omega)) (by decide)
  rw [Z_read_eq]
  refine ⟨rfl, rs_short tx (split_text c h) ?_⟩
  simp only [List.length_cons, List.length_map]
  omega
end
end Pf

-- part Lm53
set_option maxHeartbeats 1000000
namespace Pf
open PySem Cc L2 TL
/-! ### what is told of a text -/
theorem told_none {z : Str} (h : Z_read [.str z]) : F_law_told [.str z] = some .none := by
  refine run_rt rfl ?_
  show B_law_told [.val (.str z), .unk, .unk, .unk] = _
  unfold B_law_told
  exact seq_rt (sTryB_of ⟨[.str z], rfl, h⟩ (by show 1 < 4; decide) rfl)
theorem told_some {z : Str} (h : ¬ Z_read [.str z]) {ds : List Dt} (hf : F_read [.str z] = some (.tuple ds)) : F_law_told [.str z] = some (.tuple ds) := by
  refine run_rt rfl ?_
  show B_law_told [.val (.str z), .unk, .unk, .unk] = _
  unfold B_law_told
  have hA : (sSet 2 (callF F_read (aCons (getV 0) aNil))) [.val (.str z), .unk, .unk, .unk] = some (.nx [.val (.str z), .unk, .val (.tuple ds), .unk]) := by
    generalize Pf.F_read = Fr at hf ⊢
    simp [hf]
  rw [seq_nx ((sTryB_no (fun ⟨ds', z1, z2⟩ => h (by
    have : ds' = [.str z] := (Option.some.inj z1).symm
    rw [this] at z2; exact z2))).trans hA)]
  rfl
/-! ### is_right -/
@[simp] theorem o_notInIT {x : Int} {xs : List Int} : notInD (.int x) (.tuple (xs.map .int)) = some (.bool (!decide (x ∈ xs))) := by
  unfold notInD; simp only []; rw [sh_int, sh_listI, Bool.and_self, if_pos rfl, mem_any_int]
theorem right_part {d : Dt} {s2 s3 s5 s6 : Sl} {p i : Int} (h : 0 ≤ i) : L_law_is_right_2 [.val d, vI i, s2, s3, vI p, s5, s6] = some (.nx [.val d, vI i, s2, s3, vI p, s5, s6]) := by
  unfold L_law_is_right_2
  have mx : maxD [.int p, .int (i + 1)] = some (.int (max p (i + 1))) := rfl
  have ch : (vChn leD ltD (cst (.int 0)) (getV 1) (callF maxD (aCons (getV 4) (aCons (e2 addD (getV 1) (cst (.int 1))) aNil)))) [.val d, vI i, s2, s3, vI p, s5, s6] = some (.bool true) := by
    unfold vChn
    have z1 : leD (.int 0) (.int i) = some (.bool (decide (0 ≤ i))) := rfl
    have z2 : (callF maxD (aCons (getV 4) (aCons (e2 addD (getV 1) (cst (.int 1))) aNil))) [.val d, vI i, s2, s3, vI p, s5, s6] = some (.int (max p (i + 1))) := by simp [mx]
    have z3 : ltD (.int i) (.int (max p (i + 1))) = some (.bool (decide (i < max p (i + 1)))) := rfl
    rw [r_cst, Option.bind_some, r_getV, nthS, nth0, r_slV, Option.bind_some, z1, decide_eq_true h]
    rw [show asB (some (PyData.bool true)) = some true from rfl, Option.bind_some, if_pos rfl, z2, Option.bind_some, z3, decide_eq_true (by omega)]
  rw [r_sIf, r_tOr, r_tNt, r_tB, r_e1, r_tOr, r_tB, r_e1, r_tNt, r_tB, ch]
  simp [asB]
theorem is_right_ok {p a b : Int} {ts : List (List Int)} (c : Cv p a b) (h : ∀ t ∈ ts, t ∈ ptsM a b p) (hl : ts.length ≤ 40) : F_law_is_right [.tuple [.int p, .tuple [.int a, .int b], .tuple (ts.map tupI)]] = some (.bool true) := by
  have p0 := c.p0; have p1 := c.p1; have a0 := c.a0; have a1 := c.a1; have b0 := c.b0; have b1 := c.b1
  generalize hd : (PyData.tuple [.int p, .tuple [.int a, .int b], .tuple (ts.map tupI)]) = d
  refine run_rt rfl ?_
  show B_law_is_right [.val d, .unk, .unk, .unk, .unk, .unk, .unk] = _
  unfold B_law_is_right
  rw [seq_if_no (by
    rw [r_tOr, r_tNt, r_tB, r_e1, r_tOr, r_tB, r_e2, r_tB, r_e2, clocks_pr]
    rw [← hd]
    simp [asB, c.pm])]
  rw [seq_nx (ρ' := [.val d, .unk, .unk, .unk, vI p, vP a b, .val (.tuple (ts.map tupI))]) (by rw [← hd]; simp)]
  rw [seq_if_no (by
    simp [asB]
    omega)]
  have ap : (iSeq (e2 addD (getV 5) (mkTup (aCons (getV 4) aNil)))) [.val d, .unk, .unk, .unk, vI p, vP a b, .val (.tuple (ts.map tupI))] = some ([a, b, p].map .int) := rfl
  have loop := forL_ind (f := PyData.int) (g := gSet 1) (B := L_law_is_right_2) [a, b, p] (fun _ ρ => ∃ s1, ρ = [.val d, s1, .unk, .unk, vI p, vP a b, .val (.tuple (ts.map tupI))]) (ρ := [.val d, .unk, .unk, .unk, vI p, vP a b, .val (.tuple (ts.map tupI))]) ⟨_, rfl⟩ (by
    rintro i x _ hx ⟨s1, rfl⟩
    have hx := List.mem_of_getElem? hx
    have : 0 ≤ x := by
      simp only [List.mem_cons, List.not_mem_nil, or_false] at hx
      rcases hx with rfl | rfl | rfl <;> omega
    exact ⟨_, _, rfl, right_part this, _, rfl⟩)
  obtain ⟨_, l1, s1, rfl⟩ := loop
  rw [seq_nx (by rw [r_sFor, ap, Option.bind_some]; exact l1)]
  have mx : maxD [.tuple [.int a, .int b]] = some (.int (max a b)) := rfl
  have gd := F_good (a := a) (b := b) (p := p) (by omega) (by omega) (by omega)
  rw [c.gd] at gd
  have gex : geD (.int (max a b)) (.int p) = some (.bool (decide (p ≤ max a b))) := rfl
  rw [seq_if_no (by
    rw [r_tOr, r_tB, r_e2, r_tNt, r_tB]
    generalize Pf.F_law_good = Fg at gd ⊢
    simp [asB, mx, gd, gex]
    omega)]
  have lp := F_law_points_eq c
  rw [seq_set (d := .list ((ptsM a b p).map tupI)) (by
    generalize Pf.F_law_points = Fp at lp ⊢
    simp [lp])]
  simp only [List.set_cons_succ, List.set_cons_zero]
  have loop2 := forL_ind (f := tupI) (g := gSet 3) (B := L_law_is_right_1) ts (fun _ ρ => ∃ s3, ρ = [.val d, s1, .val (.list ((ptsM a b p).map tupI)), s3, vI p, vP a b, .val (.tuple (ts.map tupI))]) (ρ := [.val d, s1, .val (.list ((ptsM a b p).map tupI)), .unk, vI p, vP a b, .val (.tuple (ts.map tupI))]) ⟨_, rfl⟩ (by
    rintro i t _ ht ⟨s3, rfl⟩
    have ht := List.mem_of_getElem? ht
    refine ⟨_, [.val d, s1, .val (.list ((ptsM a b p).map tupI)), .val (tupI t), vI p, vP a b, .val (.tuple (ts.map tupI))], rfl, ?_, _, rfl⟩
    simp only [List.set_cons_succ, List.set_cons_zero]
    unfold L_law_is_right_1
    have tl2 : t.length ≤ 2 := by
      rcases mem_pts.mp (h t ht) with rfl | ⟨x, y, rfl, _⟩ <;> simp
    have it : isTuple (tupI t) = some (.bool true) := rfl
    rw [seq_if_no (by simp [asB, it, h t ht])]
    have e : lcF (iSeq (getV 3)) [1] (gSet 1) T_law_is_right_1 E_law_is_right_1 [.val d, s1, .val (.list ((ptsM a b p).map tupI)), .val (tupI t), vI p, vP a b, .val (.tuple (ts.map tupI))] = some (((t.filter fun _ => false)).map .int) := by
      have itm : iSeq (getV 3) [.val d, s1, .val (.list ((ptsM a b p).map tupI)), .val (tupI t), vI p, vP a b, .val (.tuple (ts.map tupI))] = some (t.map .int) := rfl
      rw [r_lcF, itm, Option.bind_some, if_pos (by rw [List.length_map]; omega), lcL_filter (f := PyData.int) (fun _ => false) PyData.int t fun x _ => ⟨_, rfl, rfl, fun q => by cases q⟩]
    rw [r_sIf, r_tB, r_e2, r_lstF, e]
    simp [asB])
  obtain ⟨_, l2, s3, rfl⟩ := loop2
  have it2 : (iSeq (getV 6)) [.val d, s1, .val (.list ((ptsM a b p).map tupI)), .unk, vI p, vP a b, .val (.tuple (ts.map tupI))] = some (ts.map tupI) := rfl
  rw [seq_nx (by rw [r_sFor, it2, Option.bind_some]; exact l2)]
  rfl
end Pf

-- part M04
set_option maxHeartbeats 2000000
namespace Pf
open PySem Cc L2 TL
/-- how long a text may be after i changes -/
def bnd : Nat → Nat
  | 0 => 300
  | i + 1 => 3 * bnd i + 30
theorem bnd_le : ∀ i ≤ 4, bnd i ≤ 100000 := by decide
/-- what is told of any text passes -/
theorem told_passes {z : Str} (h : Tx 100000 z) : ∃ d, F_law_told [.str z] = some d ∧ ∀ (s0 s1 s2 s3 s5 s7 : Sl),
    (vOr (e2 isND (getV 6) (cst .none)) (vAn (e2 neD (getV 6) (cst (.int 0))) (vAn (callF Pf.F_law_is_right (aCons (getV 6) aNil)) (e2 eqD (callF Pf.F_law_text (aCons (e2 ixD (getV 6) (cst (.int 0))) (aCons (e2 ixD (getV 6) (cst (.int 1))) (aCons (e2 ixD (getV 6) (cst (.int 2))) aNil)))) (getV 4))))) [s0, s1, s2, s3, .val (.str z), s5, .val d, s7] = some (.bool true) := by
  by_cases hz : Z_read [.str z]
  · exact ⟨.none, told_none hz, fun _ _ _ _ _ _ => by simp [asB]⟩
  · rcases read_any h with q | ⟨p, a, b, ts, c, hp, hl, ht, hf⟩
    · exact absurd q hz
    · refine ⟨_, told_some hz hf, fun s0 s1 s2 s3 s5 s7 => ?_⟩
      have p0 := c.p0; have p1 := c.p1; have a0 := c.a0; have a1 := c.a1; have b0 := c.b0; have b1 := c.b1
      have big : ∀ i : Int, 0 ≤ i ∧ i < 32 → i.natAbs < 2 ^ 200 := fun i h => Nat.lt_of_lt_of_le (show i.natAbs < 32 by omega) (by decide +kernel)
      have tm : Tm 3 (.tuple [.int p, .tuple [.int a, .int b], .tuple (ts.map tupI)]) := by
        refine .tuple (fun d hd => ?_) (by simp)
        simp only [List.mem_cons, List.not_mem_nil, or_false] at hd
        rcases hd with rfl | rfl | rfl
        · exact .int (big p (by omega))
        · refine (tm_tupI (k := 0) (t := [a, b]) (fun i hi => ?_) (by simp)).le (by decide)
          simp only [List.mem_cons, List.not_mem_nil, or_false] at hi
          rcases hi with rfl | rfl
          · exact big _ (by omega)
          · exact big _ (by omega)
        · refine .tuple (fun d hd => ?_) (by rw [List.length_map]; omega)
          obtain ⟨t, hm, rfl⟩ := List.mem_map.mp hd
          rcases mem_pts.mp (hp t hm) with rfl | ⟨x, y, rfl, hx, hy, _⟩
          · exact tm_tupI (fun i hi => by cases hi) (by simp)
          · refine tm_tupI (fun i hi => ?_) (by simp)
            simp only [List.mem_cons, List.not_mem_nil, or_false] at hi
            rcases hi with rfl | rfl
            · exact big _ (by omega)
            · exact big _ (by omega)
      have ne0 : neD (.tuple [.int p, .tuple [.int a, .int b], .tuple (ts.map tupI)]) (.int 0) = some (.bool true) := by
        unfold neD
        rw [tm.sh (by decide), sh_int, Bool.and_self, if_pos rfl]
        rfl
      have ok := is_right_ok c hp hl
      have tx := F_text c hp (show ts.length ≤ 41 by omega)
      rw [ht] at tx
      have eq := eqS h.1 h.1
      generalize Pf.F_law_is_right = Fi at ok ⊢
      generalize Pf.F_law_text = Ft at tx ⊢
      have no : isNo (.tuple [.int p, .tuple [.int a, .int b], .tuple (ts.map tupI)]) = false := rfl
      simp [asB, no, ne0, ok, tx, eq]
theorem law_k04_true (ns : List Int) (hl : ns.length ≤ 63) : F_law_k04 ns [] = some (.bool true) := by
  obtain ⟨p, hp, h1⟩ := size_of ns
  obtain ⟨a, b, c, h2⟩ := curve_of ns (k := 1) (by decide) (by decide) hp
  have p0 := c.p0; have p1 := c.p1; have a0 := c.a0; have a1 := c.a1; have b0 := c.b0; have b1 := c.b1
  obtain ⟨ts, t1, t2, t3⟩ := F_drawn_points c (mixed ns 2)
  have lp := F_law_points_eq c
  refine runS_rt rfl ?_
  show B_law_k04 [.scr ns, .unk, .unk, .unk, .unk, .unk, .unk, .unk] = _
  unfold B_law_k04
  rw [seq_set (h1 _)]
  simp only [List.set_cons_succ, List.set_cons_zero]
  rw [seq_set (h2 _)]
  simp only [List.set_cons_succ, List.set_cons_zero]
  rw [seq_set (d := .tuple (ts.map tupI)) (by
    generalize Pf.F_law_points = Fp at lp ⊢
    generalize Pf.F_law_drawn_points = Fd at t3 ⊢
    simp [F_mixed (ns := ns) (k := 2) (by decide) (by decide), lp, t3])]
  simp only [List.set_cons_succ, List.set_cons_zero]
  have w := F_text c t1 t2
  rw [seq_set (d := .str (textM p a b ts)) (by
    generalize Pf.F_law_text = Ft at w ⊢
    simp [w])]
  simp only [List.set_cons_succ, List.set_cons_zero]
  rw [seq_set (d := .int (mixed ns 3)) (by simp [F_mixed (ns := ns) (k := 3) (by decide) (by decide)])]
  simp only [List.set_cons_succ, List.set_cons_zero]
  by_cases h41 : ts.length = 41
  · have tn := told_none (read_41 c t1 h41)
    rw [seq_set (d := .none) (by
      generalize Pf.F_law_told = Fo at tn ⊢
      simp [tn])]
    simp only [List.set_cons_succ, List.set_cons_zero]
    exact seq_if_yes (by simp [asB, h41]) (by simp)
  · have h40 : ts.length ≤ 40 := by omega
    obtain ⟨nz, rd⟩ := read_back c t1 h40
    have ts' := told_some nz rd
    rw [seq_set (d := .tuple [.int p, .tuple [.int a, .int b], .tuple (ts.map tupI)]) (by
      generalize Pf.F_law_told = Fo at ts' ⊢
      simp [ts'])]
    simp only [List.set_cons_succ, List.set_cons_zero]
    rw [seq_if_no (by simp [asB]; omega)]
    have ok := is_right_ok c t1 h40
    have big : ∀ i : Int, 0 ≤ i ∧ i < 32 → i.natAbs < 2 ^ 200 := fun i h => Nat.lt_of_lt_of_le (show i.natAbs < 32 by omega) (by decide +kernel)
    have tm : Tm 3 (.tuple [.int p, .tuple [.int a, .int b], .tuple (ts.map tupI)]) := by
      refine .tuple (fun d hd => ?_) (by simp)
      simp only [List.mem_cons, List.not_mem_nil, or_false] at hd
      rcases hd with rfl | rfl | rfl
      · exact .int (big p (by omega))
      · refine (tm_tupI (k := 0) (t := [a, b]) (fun i hi => ?_) (by simp)).le (by decide)
        simp only [List.mem_cons, List.not_mem_nil, or_false] at hi
        rcases hi with rfl | rfl
        · exact big _ (by omega)
        · exact big _ (by omega)
      · refine .tuple (fun d hd => ?_) (by rw [List.length_map]; omega)
        obtain ⟨t, hm, rfl⟩ := List.mem_map.mp hd
        rcases mem_pts.mp (t1 t hm) with rfl | ⟨x, y, rfl, hx, hy, _⟩
        · exact tm_tupI (fun i hi => by cases hi) (by simp)
        · refine tm_tupI (fun i hi => ?_) (by simp)
          simp only [List.mem_cons, List.not_mem_nil, or_false] at hi
          rcases hi with rfl | rfl
          · exact big _ (by omega)
          · exact big _ (by omega)
    have ne : neD (.tuple [.int p, .tuple [.int a, .int b], .tuple (ts.map tupI)]) (.tuple [.int p, .tuple [.int a, .int b], .tuple (ts.map tupI)]) = some (.bool false) := by
      unfold neD
      rw [tm.sh (by decide), Bool.and_self, if_pos rfl, SeqAt.eqv_refl _ tm.lay.1]
      rfl
    rw [seq_if_no (by
      generalize Pf.F_law_is_right = Fi at ok ⊢
      simp [asB, ne, ok])]
    -- the changes
    have many : ∃ M : Nat, M ≤ 4 ∧ (e2 ixD (mkTup (aCons (cst (.int 0)) (aCons (cst (.int 1)) (aCons (cst (.int 2)) (aCons (cst (.int 4)) (aCons (cst (.int 0)) (aCons (cst (.int 1)) aNil))))))) (e2 modD (getV 5) (cst (.int 6)))) [.scr ns, vI p, vP a b, .val (.tuple (ts.map tupI)), .val (.str (textM p a b ts)), vI (mixed ns 3), .val (.tuple [.int p, .tuple [.int a, .int b], .tuple (ts.map tupI)]), .unk] = some (.int M) := by
      have hm := md (mixed ns 3) 6 (by decide)
      have m6 : modD (.int (mixed ns 3)) (.int 6) = some (.int (mixed ns 3 % 6)) := o_mod (by decide)
      obtain ⟨x, hx, e⟩ := atI_mem (xs := [(0 : Nat), 1, 2, 4, 0, 1]) hm.1 (by show _ < ((6 : Nat) : Int); omega)
      refine ⟨x, ?_, ?_⟩
      · have : ∀ y ∈ [(0 : Nat), 1, 2, 4, 0, 1], y ≤ 4 := by decide
        exact this x hx
      · have e' := atI_map (fun n : Nat => PyData.int (n : Nat)) e
        have tt : (mkTup (aCons (cst (.int 0)) (aCons (cst (.int 1)) (aCons (cst (.int 2)) (aCons (cst (.int 4)) (aCons (cst (.int 0)) (aCons (cst (.int 1)) aNil))))))) [.scr ns, vI p, vP a b, .val (.tuple (ts.map tupI)), .val (.str (textM p a b ts)), vI (mixed ns 3), .val (.tuple [.int p, .tuple [.int a, .int b], .tuple (ts.map tupI)]), .unk] = some (.tuple ([(0 : Nat), 1, 2, 4, 0, 1].map fun n : Nat => PyData.int (n : Nat))) := rfl
        rw [r_e2, tt, Option.bind_some]
        simp only [r_e2, r_getV, nthS, nth0, r_slV, Option.bind_some, r_cst, m6, o_ixT]
        exact e'
    obtain ⟨M, hM, hmany⟩ := many
    have loop := forL_ind (f := fun i : Nat => PyData.int (i : Nat)) (g := gSet 7) (B := L_law_k04_1) (List.range M)
      (fun i ρ => ∃ z s7, Tx (bnd i) z ∧ ρ = [.scr ns, vI p, vP a b, .val (.tuple (ts.map tupI)), .val (.str z), vI (mixed ns 3), .val (.tuple [.int p, .tuple [.int a, .int b], .tuple (ts.map tupI)]), s7])
      (ρ := [.scr ns, vI p, vP a b, .val (.tuple (ts.map tupI)), .val (.str (textM p a b ts)), vI (mixed ns 3), .val (.tuple [.int p, .tuple [.int a, .int b], .tuple (ts.map tupI)]), .unk]) ⟨_, _, text_tx c t1 (by omega), rfl⟩ (by
      rintro i k _ hi ⟨z, s7, tz, rfl⟩
      have hi' : i < M := by have := (List.getElem?_eq_some_iff.mp hi).1; rwa [List.length_range] at this
      obtain ⟨z', q1, q2⟩ := changed_tx tz (bnd_le i (by omega)) (drawn (mixed ns 3) k)
      refine ⟨_, [.scr ns, vI p, vP a b, .val (.tuple (ts.map tupI)), .val (.str z'), vI (mixed ns 3), .val (.tuple [.int p, .tuple [.int a, .int b], .tuple (ts.map tupI)]), vI k], rfl, ?_, z', vI k, q2, rfl⟩
      simp only [List.set_cons_succ, List.set_cons_zero]
      unfold L_law_k04_1
      generalize Pf.F_law_changed = Fc at q1 ⊢
      simp [F_drawn, q1])
    obtain ⟨_, l1, z, s7, tz, rfl⟩ := loop
    rw [List.length_range] at tz
    have tz' : Tx 100000 z := tx_le tz (bnd_le M hM)
    have it := it_rng1 (k := M) (by omega) hmany
    rw [seq_nx (by rw [r_sFor, it, Option.bind_some]; exact l1)]
    obtain ⟨d, td, fin⟩ := told_passes tz'
    rw [seq_set (d := d) (by
      generalize Pf.F_law_told = Fo at td ⊢
      simp [td])]
    simp only [List.set_cons_succ, List.set_cons_zero]
    rw [r_sRet, fin]
    rfl
end Pf

-- part E04
set_option maxHeartbeats 4000000
namespace Wk
open PySem PySem.Spec PyProof.Rows L2 Cc
theorem all_mk {P : Program} {w : World} {K : PySem.W.Frag} {h : Heap} {mg : Str → Option Value} {fa : Addr} (X : K.In h) (G : h.Ns mainGlobals mg) (hfa : mg "law" = some (.ref fa))
    {f0 : Addr} {o0 n0 : Option Addr} {s0 : Array (Option Value)} {a0 b0 c0 d0 e0 g0 : Value}
    {f1 : Addr} {o1 n1 : Option Addr} {s1 : Array (Option Value)} {a1 b1 c1 d1 e1 g1 : Value}
    {f2 : Addr} {o2 n2 : Option Addr} {s2 : Array (Option Value)} {a2 b2 c2 d2 e2 g2 : Value}
    {f3 : Addr} {o3 n3 : Option Addr} {s3 : Array (Option Value)} {a3 b3 c3 d3 e3 g3 : Value}
    {f4 : Addr} {o4 n4 : Option Addr} {s4 : Array (Option Value)} {a4 b4 c4 d4 e4 g4 : Value}
    {f5 : Addr} {o5 n5 : Option Addr} {s5 : Array (Option Value)} {a5 b5 c5 d5 e5 g5 : Value}
    {f6 : Addr} {o6 n6 : Option Addr} {s6 : Array (Option Value)} {a6 b6 c6 d6 e6 g6 : Value}
    {f7 : Addr} {o7 n7 : Option Addr} {s7 : Array (Option Value)} {a7 b7 c7 d7 e7 g7 : Value}
    {f8 : Addr} {o8 n8 : Option Addr} {s8 : Array (Option Value)} {a8 b8 c8 d8 e8 g8 : Value}
    {f9 : Addr} {o9 n9 : Option Addr} {s9 : Array (Option Value)} {a9 b9 c9 d9 e9 g9 : Value}
    {f10 : Addr} {o10 n10 : Option Addr} {s10 : Array (Option Value)} {a10 b10 c10 d10 e10 g10 : Value}
    {f11 : Addr} {o11 n11 : Option Addr} {s11 : Array (Option Value)} {a11 b11 c11 d11 e11 g11 : Value}
    {f12 : Addr} {o12 n12 : Option Addr} {s12 : Array (Option Value)} {a12 b12 c12 d12 e12 g12 : Value}
    {f13 : Addr} {o13 n13 : Option Addr} {s13 : Array (Option Value)} {a13 b13 c13 d13 e13 g13 : Value}
    {f14 : Addr} {o14 n14 : Option Addr} {s14 : Array (Option Value)} {a14 b14 c14 d14 e14 g14 : Value}
    {f15 : Addr} {o15 n15 : Option Addr} {s15 : Array (Option Value)} {a15 b15 c15 d15 e15 g15 : Value}
    {f16 : Addr} {o16 n16 : Option Addr} {s16 : Array (Option Value)} {a16 b16 c16 d16 e16 g16 : Value}
    {f17 : Addr} {o17 n17 : Option Addr} {s17 : Array (Option Value)} {a17 b17 c17 d17 e17 g17 : Value}
    {f18 : Addr} {o18 n18 : Option Addr} {s18 : Array (Option Value)} {a18 b18 c18 d18 e18 g18 : Value}
    {f19 : Addr} {o19 n19 : Option Addr} {s19 : Array (Option Value)} {a19 b19 c19 d19 e19 g19 : Value}
    {f20 : Addr} {o20 n20 : Option Addr} {s20 : Array (Option Value)} {a20 b20 c20 d20 e20 g20 : Value}
    {f21 : Addr} {o21 n21 : Option Addr} {s21 : Array (Option Value)} {a21 b21 c21 d21 e21 g21 : Value}
    {f22 : Addr} {o22 n22 : Option Addr} {s22 : Array (Option Value)} {a22 b22 c22 d22 e22 g22 : Value}
    {f23 : Addr} {o23 n23 : Option Addr} {s23 : Array (Option Value)} {a23 b23 c23 d23 e23 g23 : Value}
    {ca_NoText ca_CurveError ca_NoNumber ca_NoPoint : Addr}
    (hg0 : PySem.W.nsIn K mainGlobals "_law_drawn" = some (some (.ref f0)))
    (hl0 : K.lookup f0 = some ⟨a0, o0, .func (PySem.W.fnOf "_law_drawn" "_law_drawn" (defArgs s_law_drawn) (defBody s_law_drawn) (defScope s_law_drawn) .none b0 c0 d0 n0 e0 g0), s0⟩)
    (hc0 : PySem.W.codeIn K e0 "_law_drawn" = true) (hk0 : PySem.W.keepIn K (.ref f0) = true)
    (hg1 : PySem.W.nsIn K mainGlobals "_law_good" = some (some (.ref f1)))
    (hl1 : K.lookup f1 = some ⟨a1, o1, .func (PySem.W.fnOf "_law_good" "_law_good" (defArgs s_law_good) (defBody s_law_good) (defScope s_law_good) .none b1 c1 d1 n1 e1 g1), s1⟩)
    (hc1 : PySem.W.codeIn K e1 "_law_good" = true) (hk1 : PySem.W.keepIn K (.ref f1) = true)
    (hg2 : PySem.W.nsIn K mainGlobals "_law_curve" = some (some (.ref f2)))
    (hl2 : K.lookup f2 = some ⟨a2, o2, .func (PySem.W.fnOf "_law_curve" "_law_curve" (defArgs s_law_curve) (defBody s_law_curve) (defScope s_law_curve) .none b2 c2 d2 n2 e2 g2), s2⟩)
    (hc2 : PySem.W.codeIn K e2 "_law_curve" = true) (hk2 : PySem.W.keepIn K (.ref f2) = true)
    (hg3 : PySem.W.nsIn K mainGlobals "_law_drawn_points" = some (some (.ref f3)))
    (hl3 : K.lookup f3 = some ⟨a3, o3, .func (PySem.W.fnOf "_law_drawn_points" "_law_drawn_points" (defArgs s_law_drawn_points) (defBody s_law_drawn_points) (defScope s_law_drawn_points) .none b3 c3 d3 n3 e3 g3), s3⟩)
    (hc3 : PySem.W.codeIn K e3 "_law_drawn_points" = true) (hk3 : PySem.W.keepIn K (.ref f3) = true)
    (hg4 : PySem.W.nsIn K mainGlobals "_law_point_text" = some (some (.ref f4)))
    (hl4 : K.lookup f4 = some ⟨a4, o4, .func (PySem.W.fnOf "_law_point_text" "_law_point_text" (defArgs s_law_point_text) (defBody s_law_point_text) (defScope s_law_point_text) .none b4 c4 d4 n4 e4 g4), s4⟩)
    (hc4 : PySem.W.codeIn K e4 "_law_point_text" = true) (hk4 : PySem.W.keepIn K (.ref f4) = true)
    (hg5 : PySem.W.nsIn K mainGlobals "_law_text" = some (some (.ref f5)))
    (hl5 : K.lookup f5 = some ⟨a5, o5, .func (PySem.W.fnOf "_law_text" "_law_text" (defArgs s_law_text) (defBody s_law_text) (defScope s_law_text) .none b5 c5 d5 n5 e5 g5), s5⟩)
    (hc5 : PySem.W.codeIn K e5 "_law_text" = true) (hk5 : PySem.W.keepIn K (.ref f5) = true)
    (hg6 : PySem.W.nsIn K mainGlobals "_law_cell_at" = some (some (.ref f6)))
    (hl6 : K.lookup f6 = some ⟨a6, o6, .func (PySem.W.fnOf "_law_cell_at" "_law_cell_at" (defArgs s_law_cell_at) (defBody s_law_cell_at) (defScope s_law_cell_at) .none b6 c6 d6 n6 e6 g6), s6⟩)
    (hc6 : PySem.W.codeIn K e6 "_law_cell_at" = true) (hk6 : PySem.W.keepIn K (.ref f6) = true)
    (hg7 : PySem.W.nsIn K mainGlobals "_law_mixed" = some (some (.ref f7)))
    (hl7 : K.lookup f7 = some ⟨a7, o7, .func (PySem.W.fnOf "_law_mixed" "_law_mixed" (defArgs s_law_mixed) (defBody s_law_mixed) (defScope s_law_mixed) .none b7 c7 d7 n7 e7 g7), s7⟩)
    (hc7 : PySem.W.codeIn K e7 "_law_mixed" = true) (hk7 : PySem.W.keepIn K (.ref f7) = true)
    (hg8 : PySem.W.nsIn K mainGlobals "number_of" = some (some (.ref f8)))
    (hl8 : K.lookup f8 = some ⟨a8, o8, .func (PySem.W.fnOf "number_of" "number_of" (defArgs s_number_of) (defBody s_number_of) (defScope s_number_of) .none b8 c8 d8 n8 e8 g8), s8⟩)
    (hc8 : PySem.W.codeIn K e8 "number_of" = true) (hk8 : PySem.W.keepIn K (.ref f8) = true)
    (hg9 : PySem.W.nsIn K mainGlobals "point_text" = some (some (.ref f9)))
    (hl9 : K.lookup f9 = some ⟨a9, o9, .func (PySem.W.fnOf "point_text" "point_text" (defArgs s_point_text) (defBody s_point_text) (defScope s_point_text) .none b9 c9 d9 n9 e9 g9), s9⟩)
    (hc9 : PySem.W.codeIn K e9 "point_text" = true) (hk9 : PySem.W.keepIn K (.ref f9) = true)
    (hg10 : PySem.W.nsIn K mainGlobals "written" = some (some (.ref f10)))
    (hl10 : K.lookup f10 = some ⟨a10, o10, .func (PySem.W.fnOf "written" "written" (defArgs s_written) (defBody s_written) (defScope s_written) .none b10 c10 d10 n10 e10 g10), s10⟩)
    (hc10 : PySem.W.codeIn K e10 "written" = true) (hk10 : PySem.W.keepIn K (.ref f10) = true)
    (hg11 : PySem.W.nsIn K mainGlobals "point_of" = some (some (.ref f11)))
    (hl11 : K.lookup f11 = some ⟨a11, o11, .func (PySem.W.fnOf "point_of" "point_of" (defArgs s_point_of) (defBody s_point_of) (defScope s_point_of) .none b11 c11 d11 n11 e11 g11), s11⟩)
    (hc11 : PySem.W.codeIn K e11 "point_of" = true) (hk11 : PySem.W.keepIn K (.ref f11) = true)
    (hg12 : PySem.W.nsIn K mainGlobals "is_whole" = some (some (.ref f12)))
    (hl12 : K.lookup f12 = some ⟨a12, o12, .func (PySem.W.fnOf "is_whole" "is_whole" (defArgs s_is_whole) (defBody s_is_whole) (defScope s_is_whole) .none b12 c12 d12 n12 e12 g12), s12⟩)
    (hc12 : PySem.W.codeIn K e12 "is_whole" = true) (hk12 : PySem.W.keepIn K (.ref f12) = true)
    (hg13 : PySem.W.nsIn K mainGlobals "is_clock" = some (some (.ref f13)))
    (hl13 : K.lookup f13 = some ⟨a13, o13, .func (PySem.W.fnOf "is_clock" "is_clock" (defArgs s_is_clock) (defBody s_is_clock) (defScope s_is_clock) .none b13 c13 d13 n13 e13 g13), s13⟩)
    (hc13 : PySem.W.codeIn K e13 "is_clock" = true) (hk13 : PySem.W.keepIn K (.ref f13) = true)
    (hg14 : PySem.W.nsIn K mainGlobals "is_number" = some (some (.ref f14)))
    (hl14 : K.lookup f14 = some ⟨a14, o14, .func (PySem.W.fnOf "is_number" "is_number" (defArgs s_is_number) (defBody s_is_number) (defScope s_is_number) .none b14 c14 d14 n14 e14 g14), s14⟩)
    (hc14 : PySem.W.codeIn K e14 "is_number" = true) (hk14 : PySem.W.keepIn K (.ref f14) = true)
    (hg15 : PySem.W.nsIn K mainGlobals "is_curve" = some (some (.ref f15)))
    (hl15 : K.lookup f15 = some ⟨a15, o15, .func (PySem.W.fnOf "is_curve" "is_curve" (defArgs s_is_curve) (defBody s_is_curve) (defScope s_is_curve) .none b15 c15 d15 n15 e15 g15), s15⟩)
    (hc15 : PySem.W.codeIn K e15 "is_curve" = true) (hk15 : PySem.W.keepIn K (.ref f15) = true)
    (hg16 : PySem.W.nsIn K mainGlobals "height" = some (some (.ref f16)))
    (hl16 : K.lookup f16 = some ⟨a16, o16, .func (PySem.W.fnOf "height" "height" (defArgs s_height) (defBody s_height) (defScope s_height) .none b16 c16 d16 n16 e16 g16), s16⟩)
    (hc16 : PySem.W.codeIn K e16 "height" = true) (hk16 : PySem.W.keepIn K (.ref f16) = true)
    (hg17 : PySem.W.nsIn K mainGlobals "is_point" = some (some (.ref f17)))
    (hl17 : K.lookup f17 = some ⟨a17, o17, .func (PySem.W.fnOf "is_point" "is_point" (defArgs s_is_point) (defBody s_is_point) (defScope s_is_point) .none b17 c17 d17 n17 e17 g17), s17⟩)
    (hc17 : PySem.W.codeIn K e17 "is_point" = true) (hk17 : PySem.W.keepIn K (.ref f17) = true)
    (hg18 : PySem.W.nsIn K mainGlobals "read" = some (some (.ref f18)))
    (hl18 : K.lookup f18 = some ⟨a18, o18, .func (PySem.W.fnOf "read" "read" (defArgs s_read) (defBody s_read) (defScope s_read) .none b18 c18 d18 n18 e18 g18), s18⟩)
    (hc18 : PySem.W.codeIn K e18 "read" = true) (hk18 : PySem.W.keepIn K (.ref f18) = true)
    (hg19 : PySem.W.nsIn K mainGlobals "_law_told" = some (some (.ref f19)))
    (hl19 : K.lookup f19 = some ⟨a19, o19, .func (PySem.W.fnOf "_law_told" "_law_told" (defArgs s_law_told) (defBody s_law_told) (defScope s_law_told) .none b19 c19 d19 n19 e19 g19), s19⟩)
    (hc19 : PySem.W.codeIn K e19 "_law_told" = true) (hk19 : PySem.W.keepIn K (.ref f19) = true)
    (hg20 : PySem.W.nsIn K mainGlobals "_law_points" = some (some (.ref f20)))
    (hl20 : K.lookup f20 = some ⟨a20, o20, .func (PySem.W.fnOf "_law_points" "_law_points" (defArgs s_law_points) (defBody s_law_points) (defScope s_law_points) .none b20 c20 d20 n20 e20 g20), s20⟩)
    (hc20 : PySem.W.codeIn K e20 "_law_points" = true) (hk20 : PySem.W.keepIn K (.ref f20) = true)
    (hg21 : PySem.W.nsIn K mainGlobals "_law_changed" = some (some (.ref f21)))
    (hl21 : K.lookup f21 = some ⟨a21, o21, .func (PySem.W.fnOf "_law_changed" "_law_changed" (defArgs s_law_changed) (defBody s_law_changed) (defScope s_law_changed) .none b21 c21 d21 n21 e21 g21), s21⟩)
    (hc21 : PySem.W.codeIn K e21 "_law_changed" = true) (hk21 : PySem.W.keepIn K (.ref f21) = true)
    (hg22 : PySem.W.nsIn K mainGlobals "_law_is_right" = some (some (.ref f22)))
    (hl22 : K.lookup f22 = some ⟨a22, o22, .func (PySem.W.fnOf "_law_is_right" "_law_is_right" (defArgs s_law_is_right) (defBody s_law_is_right) (defScope s_law_is_right) .none b22 c22 d22 n22 e22 g22), s22⟩)
    (hc22 : PySem.W.codeIn K e22 "_law_is_right" = true) (hk22 : PySem.W.keepIn K (.ref f22) = true)
    (hg23 : PySem.W.nsIn K mainGlobals "law" = some (some (.ref f23)))
    (hl23 : K.lookup f23 = some ⟨a23, o23, .func (PySem.W.fnOf "law" "law" (defArgs s_law) (defBody s_law) (defScope s_law) .none b23 c23 d23 n23 e23 g23), s23⟩)
    (hc23 : PySem.W.codeIn K e23 "law" = true) (hk23 : PySem.W.keepIn K (.ref f23) = true)
    (z0 : PySem.W.nsIn K mainGlobals "ValueError" = some none)
    (z1 : PySem.W.nsIn K mainGlobals "all" = some none)
    (z2 : PySem.W.nsIn K mainGlobals "bool" = some none)
    (z3 : PySem.W.nsIn K mainGlobals "int" = some none)
    (z4 : PySem.W.nsIn K mainGlobals "isinstance" = some none)
    (z5 : PySem.W.nsIn K mainGlobals "len" = some none)
    (z6 : PySem.W.nsIn K mainGlobals "max" = some none)
    (z7 : PySem.W.nsIn K mainGlobals "range" = some none)
    (z8 : PySem.W.nsIn K mainGlobals "str" = some none)
    (z9 : PySem.W.nsIn K mainGlobals "tuple" = some none)
    {cv0 : Value} (hcv0 : PySem.W.nsIn K mainGlobals "FIGURES" = some (some cv0)) (hcw0 : ∃ v, RelV v cv0 ∧ ∀ G, Rp K G v Pf.C_FIGURES)
    {cv1 : Value} (hcv1 : PySem.W.nsIn K mainGlobals "MOST" = some (some cv1)) (hcw1 : ∃ v, RelV v cv1 ∧ ∀ G, Rp K G v Pf.C_MOST)
    {ca2 : Addr} {co2 : Obj} (hca2 : PySem.W.nsIn K mainGlobals "PRIMES" = some (some (.ref ca2))) (hcl2 : K.lookup ca2 = some co2) (hcs2 : tupCB co2 Pf.C_PRIMES = true)
    (hx_g : PySem.W.nsIn K mainGlobals "NoText" = some (some (.ref ca_NoText)))
    (hx_k : PySem.W.keepIn K (.ref ca_NoText) = true)
    (hx_e : PySem.W.excIn K ca_NoText [.type "ValueError", .type "Exception", .type "BaseException", .type "object"] "ValueError.__new__" = true)
    (hx_b : PySem.W.subIn K (.ref ca_NoText) (.type "BaseException") = some true)
    (hx_t : PySem.W.typeIn K (.ref ca_NoText) = some (.type "type"))
    (hx_ga : PySem.W.findIn K (.ref ca_NoText) "__getattribute__" = some (some (.builtin "BaseException.__getattribute__")))
    (hx_gt : PySem.W.findIn K (.ref ca_NoText) "__getattr__" = some none)
    (hx_hd : PySem.W.hasDictIn K ca_NoText = true)
    (hx_cl : PySem.W.findIn K (.ref ca_NoText) "__class__" = some (some (.builtin "object.__class__")))
    (hx_sp : PySem.W.specialIn K (.builtin "object.__class__") "__get__" = some (some (.builtin "getset_descriptor.__get__")))
    (hx_tk : PySem.W.takesIn K (.builtin "object.__class__") = some true)
    (hx_mr : PySem.W.mroIn K ca_NoText (.type "object") = some true)
    (hx_ss : PySem.W.subIn K (.ref ca_NoText) (.ref ca_NoText) = some true)
    (hg_CurveError : PySem.W.nsIn K mainGlobals "CurveError" = some (some (.ref ca_CurveError)))
    (hg_NoNumber : PySem.W.nsIn K mainGlobals "NoNumber" = some (some (.ref ca_NoNumber)))
    (hg_NoPoint : PySem.W.nsIn K mainGlobals "NoPoint" = some (some (.ref ca_NoPoint)))
    (hq_CurveError : PySem.W.isClsIn K ca_CurveError = true)
    (ht_CurveError : PySem.W.typeIn K (.ref ca_CurveError) = some (.type "type"))
    (hn_CurveError : (Value.ref ca_NoText == Value.ref ca_CurveError) = false)
    (hs_CurveError : PySem.W.subIn K (.ref ca_NoText) (.ref ca_CurveError) = some true)
    (hq_NoNumber : PySem.W.isClsIn K ca_NoNumber = true)
    (ht_NoNumber : PySem.W.typeIn K (.ref ca_NoNumber) = some (.type "type"))
    (hn_NoNumber : (Value.ref ca_NoText == Value.ref ca_NoNumber) = false)
    (hs_NoNumber : PySem.W.subIn K (.ref ca_NoText) (.ref ca_NoNumber) = some false)
    (hq_NoPoint : PySem.W.isClsIn K ca_NoPoint = true)
    (ht_NoPoint : PySem.W.typeIn K (.ref ca_NoPoint) = some (.type "type"))
    (hn_NoPoint : (Value.ref ca_NoText == Value.ref ca_NoPoint) = false)
    (hs_NoPoint : PySem.W.subIn K (.ref ca_NoText) (.ref ca_NoPoint) = some false)
    (hs_ValueError : PySem.W.subIn K (.ref ca_NoText) (.type "ValueError") = some true) :
    ∃ fd : FuncData, (∀ (s : Shared) (v : Value), BindsTo s fd ⟨[v], []⟩ [("script", v)]) ∧ ∀ base : Heap, FnOk P w K mg base CX0 6 fa fd ["script"] (spScr K Pf.F_law_k04) := by
  have e : fa = f23 := Value.ref.inj (Option.some.inj (hfa.symm.trans (PySem.W.mg_of X G hg23)))
  rw [e]
  let T : Txt K mg := { f_law_drawn := f0, d_law_drawn := _, F_law_drawn := fun_mk hl0 hc0 hk0, g_law_drawn := PySem.W.mg_of X G hg0, f_law_good := f1, d_law_good := _, F_law_good := fun_mk hl1 hc1 hk1, g_law_good := PySem.W.mg_of X G hg1, f_law_curve := f2, d_law_curve := _, F_law_curve := fun_mk hl2 hc2 hk2, g_law_curve := PySem.W.mg_of X G hg2, f_law_drawn_points := f3, d_law_drawn_points := _, F_law_drawn_points := fun_mk hl3 hc3 hk3, g_law_drawn_points := PySem.W.mg_of X G hg3, f_law_point_text := f4, d_law_point_text := _, F_law_point_text := fun_mk hl4 hc4 hk4, g_law_point_text := PySem.W.mg_of X G hg4, f_law_text := f5, d_law_text := _, F_law_text := fun_mk hl5 hc5 hk5, g_law_text := PySem.W.mg_of X G hg5, f_law_cell_at := f6, d_law_cell_at := _, F_law_cell_at := fun_mk hl6 hc6 hk6, g_law_cell_at := PySem.W.mg_of X G hg6, f_law_mixed := f7, d_law_mixed := _, F_law_mixed := fun_mk hl7 hc7 hk7, g_law_mixed := PySem.W.mg_of X G hg7, f_number_of := f8, d_number_of := _, F_number_of := fun_mk hl8 hc8 hk8, g_number_of := PySem.W.mg_of X G hg8, f_point_text := f9, d_point_text := _, F_point_text := fun_mk hl9 hc9 hk9, g_point_text := PySem.W.mg_of X G hg9, f_written := f10, d_written := _, F_written := fun_mk hl10 hc10 hk10, g_written := PySem.W.mg_of X G hg10, f_point_of := f11, d_point_of := _, F_point_of := fun_mk hl11 hc11 hk11, g_point_of := PySem.W.mg_of X G hg11, f_is_whole := f12, d_is_whole := _, F_is_whole := fun_mk hl12 hc12 hk12, g_is_whole := PySem.W.mg_of X G hg12, f_is_clock := f13, d_is_clock := _, F_is_clock := fun_mk hl13 hc13 hk13, g_is_clock := PySem.W.mg_of X G hg13, f_is_number := f14, d_is_number := _, F_is_number := fun_mk hl14 hc14 hk14, g_is_number := PySem.W.mg_of X G hg14, f_is_curve := f15, d_is_curve := _, F_is_curve := fun_mk hl15 hc15 hk15, g_is_curve := PySem.W.mg_of X G hg15, f_height := f16, d_height := _, F_height := fun_mk hl16 hc16 hk16, g_height := PySem.W.mg_of X G hg16, f_is_point := f17, d_is_point := _, F_is_point := fun_mk hl17 hc17 hk17, g_is_point := PySem.W.mg_of X G hg17, f_read := f18, d_read := _, F_read := fun_mk hl18 hc18 hk18, g_read := PySem.W.mg_of X G hg18, f_law_told := f19, d_law_told := _, F_law_told := fun_mk hl19 hc19 hk19, g_law_told := PySem.W.mg_of X G hg19, f_law_points := f20, d_law_points := _, F_law_points := fun_mk hl20 hc20 hk20, g_law_points := PySem.W.mg_of X G hg20, f_law_changed := f21, d_law_changed := _, F_law_changed := fun_mk hl21 hc21 hk21, g_law_changed := PySem.W.mg_of X G hg21, f_law_is_right := f22, d_law_is_right := _, F_law_is_right := fun_mk hl22 hc22 hk22, g_law_is_right := PySem.W.mg_of X G hg22, f_law := f23, d_law := _, F_law := fun_mk hl23 hc23 hk23, n_ValueError := PySem.W.mg_none_of X G z0, n_all := PySem.W.mg_none_of X G z1, n_bool := PySem.W.mg_none_of X G z2, n_int := PySem.W.mg_none_of X G z3, n_isinstance := PySem.W.mg_none_of X G z4, n_len := PySem.W.mg_none_of X G z5, n_max := PySem.W.mg_none_of X G z6, n_range := PySem.W.mg_none_of X G z7, n_str := PySem.W.mg_none_of X G z8, n_tuple := PySem.W.mg_none_of X G z9, c_FIGURES := (by obtain ⟨v, h1, h2⟩ := hcw0; exact ⟨v, _, PySem.W.mg_of X G hcv0, h1, h2⟩), c_MOST := (by obtain ⟨v, h1, h2⟩ := hcw1; exact ⟨v, _, PySem.W.mg_of X G hcv1, h1, h2⟩), c_PRIMES := globD_tup (PySem.W.mg_of X G hca2) hcl2 hcs2, a_NoText := _, x_NoText := ⟨PySem.W.mg_of X G hx_g, hx_k, hx_e, hx_b, hx_t⟩, e_NoText := ⟨hx_ga, hx_gt, hx_b, hx_hd, hx_cl, hx_sp, hx_tk, hx_mr⟩, m_NoText := PySem.W.exm_ref hx_b hx_hd hx_t hx_ss, a_CurveError := _, g_CurveError := PySem.W.mg_of X G hg_CurveError, a_NoNumber := _, g_NoNumber := PySem.W.mg_of X G hg_NoNumber, a_NoPoint := _, g_NoPoint := PySem.W.mg_of X G hg_NoPoint, k_NoText_CurveError := kit_ref hn_CurveError hq_CurveError ht_CurveError hs_CurveError, k_NoText_ValueError := kit_blt (by decide +kernel) hs_ValueError, k2_NoText_NoNumber_NoPoint := kitAny_cons (kit_ref hn_NoNumber hq_NoNumber ht_NoNumber hs_NoNumber) (fun _ => kitAny_cons (kit_ref hn_NoPoint hq_NoPoint ht_NoPoint hs_NoPoint) (fun _ => kitAny_nil) (fun z => nomatch z)) (fun z => nomatch z) }
  exact ⟨T.d_law, fun s v => .of_eq rfl, fun base => ok_law (base := base) T⟩
end Wk
open PySem PySem.W PyProof.Rows
set_option maxHeartbeats 0 in
theorem PySem.Challenge.cw_clockcurve_k04_whole_read_holds : PySem.Challenge.rw_clockcurve_k04_whole_read.Holds := by
  w_on; o_law; k_head; (case hw => w_witness2)
  k_fill
  refine L2.walk_of (l := PySem.Challenge.rw_clockcurve_k04_whole_read) (n := 63) (k := 6) (x := "script") (CX := fun _ => L2.CX0) (sp := fun w => Cc.spScr _ Pf.F_law_k04) rfl (by decide) rfl ⟨rfl, by decide, by decide⟩ (fun w h Y => PySem.W.kIn_of Y) ?F
    (fun _ H a ns hl _ hS => ⟨H, a, ns, [], [], .bool true, Cc.Ex.refl _, rfl, hS, .nil, Pf.law_k04_true ns hl, fun v G' H' s r => r.of_bl⟩) (fun _ _ _ _ _ h => h)
  case F =>
    intro w mg fa h KX G hmg
    obtain ⟨fd, hb, hF⟩ := Wk.all_mk (P := (PySem.Challenge.rw_clockcurve_k04_whole_read).prog) (w := w) KX G hmg (by k_is) (by k_is) (by k_is) (by k_is) (by k_is) (by k_is) (by k_is) (by k_is) (by k_is) (by k_is) (by k_is) (by k_is) (by k_is) (by k_is) (by k_is) (by k_is) (by k_is) (by k_is) (by k_is) (by k_is) (by k_is) (by k_is) (by k_is) (by k_is) (by k_is) (by k_is) (by k_is) (by k_is) (by k_is) (by k_is) (by k_is) (by k_is) (by k_is) (by k_is) (by k_is) (by k_is) (by k_is) (by k_is) (by k_is) (by k_is) (by k_is) (by k_is) (by k_is) (by k_is) (by k_is) (by k_is) (by k_is) (by k_is) (by k_is) (by k_is) (by k_is) (by k_is) (by k_is) (by k_is) (by k_is) (by k_is) (by k_is) (by k_is) (by k_is) (by k_is) (by k_is) (by k_is) (by k_is) (by k_is) (by k_is) (by k_is) (by k_is) (by k_is) (by k_is) (by k_is) (by k_is) (by k_is) (by k_is) (by k_is) (by k_is) (by k_is) (by k_is) (by k_is) (by k_is) (by k_is) (by k_is) (by k_is) (by k_is) (by k_is) (by k_is) (by k_is) (by k_is) (by k_is) (by k_is) (by k_is) (by k_is) (by k_is) (by k_is) (by k_is) (by k_is) (by k_is) (by k_is) (by k_is) (by k_is) (by k_is) (by k_is) (by k_is) (by k_is) (by k_is) (by k_is) (by k_is) (by k_is) (by exact Cc.relC_str) (by k_is) (by exact Cc.relC_int) (by k_is) (by k_is) (by decide +kernel) (by k_is) (by k_is) (by first | k_is | k_exc | decide +kernel) (by k_is) (by k_is) (by k_is) (by k_is) (by k_is) (by k_is) (by k_is) (by k_is) (by k_is) (by first | k_is | k_exc | decide +kernel) (by k_is) (by k_is) (by k_is) (by k_is) (by k_is) (by decide +kernel) (by k_is) (by k_is) (by k_is) (by decide +kernel) (by k_is) (by k_is) (by k_is) (by decide +kernel) (by k_is) (by k_is)
    exact ⟨fd, hb, fun base _ _ => hF base⟩
