import PyProof.Rows.All
import Wide.All
import OpenK.AllK
import Wide.FinOn
import HandS.ForMost
import HandS.ForExc
import HandS.Defaults
import HandS.CallSlots
import HandS.IsInst
import HandS.TupAny
import HandS.TupMul
import HandS.SortInts
import HandS.Strs
import HandS.Style
import HandS.Zip
import HandS.Flow
import HandS.Wide
import HandS.Conv
import KE.GoesEnum
import KE.GoesMore
import HandS.SetFor
import PyProof.ListMulRoad
import KE.KRevSl
import PyProof.FactsAll.tuple_2
import HandS.HeadHook2
import HandS.Words
import HandS.TupSets
import PyProof.EqAt
import HandS.ExcIs
import HandS.Head0
import HandS.Head1
import HandS.Head2
import HandS.HeadEnd
import HandS.HeadHook1
import HandS.Iter
import HandS.TupLe
import PySem.Challenge.RW_meetwithin_k57_main_three_lengths_come_t
set_option Elab.async false
set_option linter.all false
set_option maxRecDepth 100000
set_option maxHeartbeats 2000000
/-! DL1: plain data D, the state by data (Sm), readings by data (WE, WS ..) -/
namespace DL
open PySem PySem.Spec PyProof.Rows L2

/-! ### data -/
inductive D where
  | non | bl (b : Bool) | int (i : Int) | str (x : Str) | lst (l : List D) | tup (l : List D)
  | dic (l : List (List Int × D)) | fn (x : Str) | scr (l : List Int)

/-- a slot's content: a value that stays, a list that is changed (tag 0: the caller's), a dict that is changed -/
inductive B where
  | fz (d : D) | ow (t : Nat) (l : List D) | od (l : List (List Int × D))

abbrev Rho := List (Option B)
abbrev Sl := L2.St

/-- an outcome: a value, an own error's name with what stands then, or nothing is said -/
inductive Res (α : Type) where
  | ok (a : α) | er (e : Str) (r : Rho) | bad

def Res.bind {α β : Type} (m : Res α) (f : α → Res β) : Res β := match m with
  | .ok a => f a
  | .er e r => .er e r
  | .bad => .bad
instance : Monad Res where
  pure := .ok
  bind := Res.bind

/-- a def's outcome -/
inductive FR (α : Type) where
  | ok (a : α) | er (e : Str) | bad

mutual
inductive Rp (K : PySem.W.Frag) (mg : Str → Option Value) (H : Hp) : D → V → Prop
  | non : Rp K mg H .non .non
  | bl (b : Bool) : Rp K mg H (.bl b) (.bl b)
  | int (i : Int) : Rp K mg H (.int i) (.int i)
  | str (x : Str) : Rp K mg H (.str x) (.str x)
  | lst {a : Addr} {xs : List V} {l : List D} : H a = some (.lst xs) → RpA K mg H l xs → Rp K mg H (.lst l) (.ref a)
  | tup {a : Addr} {xs : List V} {l : List D} : H a = some (.tup xs) → RpA K mg H l xs → Rp K mg H (.tup l) (.ref a)
  | dic {a : Addr} {kvs : List (List Key × V)} {l : List (List Int × D)} : Rd H a (.dT kvs) → RpK K mg H l kvs → Rp K mg H (.dic l) (.ref a)
  | fn {x : Str} {f : Addr} : mg x = some (.ref f) → Rp K mg H (.fn x) (.ref f)
  | scr {a : Addr} {l : List Int} : SqL K H a (l.map V.int) → Rp K mg H (.scr l) (.ref a)
inductive RpA (K : PySem.W.Frag) (mg : Str → Option Value) (H : Hp) : List D → List V → Prop
  | nil : RpA K mg H [] []
  | cons {d : D} {ds : List D} {v : V} {vs : List V} : Rp K mg H d v → RpA K mg H ds vs → RpA K mg H (d :: ds) (v :: vs)
inductive RpK (K : PySem.W.Frag) (mg : Str → Option Value) (H : Hp) : List (List Int × D) → List (List Key × V) → Prop
  | nil : RpK K mg H [] []
  | cons {k : List Int} {d : D} {ds : List (List Int × D)} {v : V} {vs : List (List Key × V)} : Rp K mg H d v → RpK K mg H ds vs → RpK K mg H ((k, d) :: ds) ((k.map Sum.inl, v) :: vs)
end

section
variable {K : PySem.W.Frag} {mg : Str → Option Value} {H H' : Hp}
theorem tq {a : Addr} {xs : List V} (s : Same H H') (h : H a = some (.tup xs)) : SqT K H' a xs := .inl (.inl (s _ _ h))
theorem SqT.mono {a : Addr} {xs : List V} (s : Same H H') (h : SqT K H a xs) : SqT K H' a xs := by
  rcases h with (h | ⟨o, h⟩) | h
  · exact .inl (.inl (s _ _ h))
  · exact .inl (.inr ⟨o, s _ _ h⟩)
  · exact .inr h
mutual
theorem Rp.mono (s : Same H H') : ∀ (d : D) (v : V), Rp K mg H d v → Rp K mg H' d v
  | .non, _, h => by cases h; exact .non
  | .bl b, _, h => by cases h; exact .bl b
  | .int i, _, h => by cases h; exact .int i
  | .str x, _, h => by cases h; exact .str x
  | .lst l, _, h => by
    cases h with
    | lst e r => exact .lst (s _ _ e) (RpA.mono s l _ r)
  | .tup l, _, h => by
    cases h with
    | tup e r => exact .tup (s _ _ e) (RpA.mono s l _ r)
  | .dic l, _, h => by
    cases h with
    | dic e r => exact .dic (e.elim (fun e => .inl (s _ _ e)) fun ⟨o, e⟩ => .inr ⟨o, s _ _ e⟩) (RpK.mono s l _ r)
  | .fn x, _, h => by
    cases h with
    | fn e => exact .fn e
  | .scr l, _, h => by
    cases h with
    | scr e => exact .scr (s.seq e)
theorem RpA.mono (s : Same H H') : ∀ (ds : List D) (vs : List V), RpA K mg H ds vs → RpA K mg H' ds vs
  | [], _, h => by cases h; exact .nil
  | d :: ds, _, h => by
    cases h with
    | cons a b => exact .cons (Rp.mono s d _ a) (RpA.mono s ds _ b)
theorem RpK.mono (s : Same H H') : ∀ (ds : List (List Int × D)) (vs : List (List Key × V)), RpK K mg H ds vs → RpK K mg H' ds vs
  | [], _, h => by cases h; exact .nil
  | (k, d) :: ds, _, h => by
    cases h with
    | cons a b => exact .cons (Rp.mono s d _ a) (RpK.mono s ds _ b)
end
theorem Rp.up {d : D} {v : V} (h : Rp K mg H d v) (s : Same H H') : Rp K mg H' d v := Rp.mono s d v h
theorem RpA.up {d : List D} {v : List V} (h : RpA K mg H d v) (s : Same H H') : RpA K mg H' d v := RpA.mono s d v h
theorem RpK.up {d : List (List Int × D)} {v : List (List Key × V)} (h : RpK K mg H d v) (s : Same H H') : RpK K mg H' d v := RpK.mono s d v h
theorem RpA.length : ∀ {ds : List D} {vs : List V}, RpA K mg H ds vs → ds.length = vs.length
  | _, _, .nil => rfl
  | _, _, .cons _ r => by simp [RpA.length r]
theorem RpA.append : ∀ {ds es : List D} {vs ws : List V}, RpA K mg H ds vs → RpA K mg H es ws → RpA K mg H (ds ++ es) (vs ++ ws)
  | _, _, _, _, .nil, s => s
  | _, _, _, _, .cons r t, s => .cons r (RpA.append t s)
theorem RpA.get : ∀ {ds : List D} {vs : List V} {i : Nat} {d : D}, RpA K mg H ds vs → ds[i]? = some d → ∃ v, vs[i]? = some v ∧ Rp K mg H d v
  | _, _, _, _, .nil, e => by simp at e
  | _, _, 0, _, .cons r _, e => by simp at e; subst e; exact ⟨_, rfl, r⟩
  | _, _, i + 1, d, .cons _ t, e => by
    obtain ⟨u, h1, h2⟩ := RpA.get (i := i) (d := d) t (by simpa using e)
    exact ⟨u, by simpa using h1, h2⟩
theorem RpA.getV : ∀ {ds : List D} {vs : List V} {i : Nat} {v : V}, RpA K mg H ds vs → vs[i]? = some v → ∃ d, ds[i]? = some d ∧ Rp K mg H d v
  | _, _, _, _, .nil, e => by simp at e
  | _, _, 0, _, .cons r _, e => by simp at e; subst e; exact ⟨_, rfl, r⟩
  | _, _, i + 1, d, .cons _ t, e => by
    obtain ⟨u, h1, h2⟩ := RpA.getV (i := i) (v := d) t (by simpa using e)
    exact ⟨u, by simpa using h1, h2⟩
theorem RpA.drop : ∀ {ds : List D} {vs : List V} (n : Nat), RpA K mg H ds vs → RpA K mg H (ds.drop n) (vs.drop n)
  | _, _, 0, r => r
  | _, _, _ + 1, .nil => .nil
  | _, _, n + 1, .cons _ t => RpA.drop n t
theorem RpA.take : ∀ {ds : List D} {vs : List V} (n : Nat), RpA K mg H ds vs → RpA K mg H (ds.take n) (vs.take n)
  | _, _, 0, _ => .nil
  | _, _, _ + 1, .nil => .nil
  | _, _, n + 1, .cons r t => .cons r (RpA.take n t)
theorem RpA.reverse {ds : List D} {vs : List V} (r : RpA K mg H ds vs) : RpA K mg H ds.reverse vs.reverse := by
  induction ds generalizing vs with
  | nil => cases r; exact .nil
  | cons d ds ih =>
    cases r with
    | cons a b => rw [List.reverse_cons, List.reverse_cons]; exact (ih b).append (.cons a .nil)
theorem RpA.set {d : D} {v : V} (a : Rp K mg H d v) : ∀ {ds : List D} {vs : List V} (n : Nat), RpA K mg H ds vs → RpA K mg H (ds.set n d) (vs.set n v)
  | _, _, _, .nil => .nil
  | _, _, 0, .cons _ t => .cons a t
  | _, _, n + 1, .cons r t => .cons r (RpA.set a n t)
theorem RpA.rep {ds : List D} {vs : List V} (r : RpA K mg H ds vs) : ∀ n : Nat, RpA K mg H (List.replicate n ds).flatten (List.replicate n vs).flatten
  | 0 => .nil
  | n + 1 => by
    rw [List.replicate_succ, List.replicate_succ, List.flatten_cons, List.flatten_cons]
    exact r.append (RpA.rep r n)
theorem RpA.dropLast {ds : List D} {vs : List V} (r : RpA K mg H ds vs) : RpA K mg H ds.dropLast vs.dropLast := by
  rw [List.dropLast_eq_take, List.dropLast_eq_take, r.length]
  exact r.take _
/-- data that are ints -/
def iL (l : List Int) : List D := l.map D.int
theorem RpA.iL_of : ∀ {l : List Int} {vs : List V}, RpA K mg H (iL l) vs → vs = l.map V.int
  | [], _, h => by cases h; rfl
  | i :: l, _, h => by
    have h' : RpA K mg H (D.int i :: iL l) _ := h
    cases h' with
    | cons a b => cases a; rw [RpA.iL_of (l := l) b]; rfl
theorem RpA.of_iL : ∀ (l : List Int), RpA K mg H (iL l) (l.map V.int)
  | [] => .nil
  | i :: l => .cons (.int i) (RpA.of_iL l)
end

/-! ### the state by data -/
section
variable (K : PySem.W.Frag) (mg : Str → Option Value) (Z : Addr) (C H Hf : Hp)
def RpB : B → V → Prop
  | .fz d, v => Rp K mg Hf d v
  | .ow t l, v => ∃ a xs, v = .ref a ∧ H a = some (.lst xs) ∧ Hf a = none ∧ C a = none ∧ RpA K mg Hf l xs ∧ (t = 0 → a = Z)
  | .od l, v => ∃ a kvs, v = .ref a ∧ H a = some (.dT kvs) ∧ Hf a = none ∧ C a = none ∧ RpK K mg Hf l kvs
def isOw : B → Bool
  | .fz _ => false
  | _ => true
/-- Z: where the caller's list stands; C: what is nobody's business here; Hf: what stays -/
structure Sm (σ : Sl) (ρ : Rho) : Prop where
  ff : Same Hf H
  cf : Same C H
  dj : ∀ a o, C a = some o → Hf a = none
  ln : ρ.length = σ.length
  sl : ∀ (i : Nat) (b : B), ρ[i]? = some (some b) → ∃ v, σ[i]? = some (some v) ∧ RpB K mg Z C H Hf b v
  ds : ∀ (i j : Nat) (b c : B) (a : Addr), ρ[i]? = some (some b) → ρ[j]? = some (some c) → isOw b = true → isOw c = true → σ[i]? = some (some (.ref a)) → σ[j]? = some (some (.ref a)) → i = j
  cm : ∀ a xs, C a ≠ some (.tup xs)
end

section
variable {K : PySem.W.Frag} {mg : Str → Option Value} {Z : Addr} {C H Hf H' Hf' : Hp} {σ : Sl} {ρ : Rho}
theorem RpB.addr {b : B} {v : V} (h : RpB K mg Z C H Hf b v) (o : isOw b = true) : ∃ a, v = .ref a ∧ Hf a = none ∧ C a = none ∧ ∃ q, H a = some q := by
  cases b with
  | fz d => cases o
  | ow t l => obtain ⟨a, xs, e, h1, h2, h3, _⟩ := h; exact ⟨a, e, h2, h3, _, h1⟩
  | od l => obtain ⟨a, xs, e, h1, h2, h3, _⟩ := h; exact ⟨a, e, h2, h3, _, h1⟩
/-- the heap may grow by new things, which may be kept -/
theorem Sm.grow (S : Sm K mg Z C H Hf σ ρ) (s : Same H H') (sf : Same Hf Hf') (ff : Same Hf' H') (nw : ∀ a o, Hf' a = some o → Hf a = none → H a = none ∨ ∃ xs, o = .tup xs) : Sm K mg Z C H' Hf' σ ρ where
  ff := ff
  cf := S.cf.trans s
  dj := fun a o e => by
    cases q : Hf' a with
    | none => rfl
    | some u =>
      have h1 := S.dj a o e
      rcases nw a u q h1 with h2 | ⟨xs, rfl⟩
      · rw [S.cf a o e] at h2; cases h2
      · have h3 := ff _ _ q
        rw [s _ _ (S.cf a o e)] at h3
        cases h3
        exact (S.cm a xs e).elim
  ln := S.ln
  sl := fun i b e => by
    obtain ⟨v, e1, r⟩ := S.sl i b e
    refine ⟨v, e1, ?_⟩
    have new : ∀ a q, H a = some q → (∀ xs, q ≠ .tup xs) → Hf a = none → Hf' a = none := fun a q h1 hq h2 => by
      cases e : Hf' a with
      | none => rfl
      | some u =>
        rcases nw a u e h2 with h3 | ⟨xs, rfl⟩
        · rw [h3] at h1; cases h1
        · have h4 := ff _ _ e
          rw [s _ _ h1] at h4
          cases h4
          exact (hq xs rfl).elim
    cases b with
    | fz d => exact Rp.up r sf
    | ow t l => obtain ⟨a, xs, e2, h1, h2, h3, h4, h5⟩ := r; exact ⟨a, xs, e2, s _ _ h1, new a _ h1 (fun _ z => by cases z) h2, h3, h4.up sf, h5⟩
    | od l => obtain ⟨a, xs, e2, h1, h2, h3, h4⟩ := r; exact ⟨a, xs, e2, s _ _ h1, new a _ h1 (fun _ z => by cases z) h2, h3, h4.up sf⟩
  ds := S.ds
  cm := S.cm
theorem same_upd {p : Addr} {o : HO} (n : H p = none) : Same H (upd H p o) := fun a u e => by rw [upd_ne (ne_of_none e n)]; exact e
theorem Sm.free (S : Sm K mg Z C H Hf σ ρ) {p : Addr} (n : H p = none) : Hf p = none := by
  cases e : Hf p with
  | none => rfl
  | some u => rw [S.ff _ _ e] at n; cases n
theorem Sm.freeC (S : Sm K mg Z C H Hf σ ρ) {p : Addr} (n : H p = none) : C p = none := by
  cases e : C p with
  | none => rfl
  | some u => rw [S.cf _ _ e] at n; cases n
/-- a new thing, kept -/
theorem Sm.laid (S : Sm K mg Z C H Hf σ ρ) {p : Addr} (o : HO) (n : H p = none) : Sm K mg Z C (upd H p o) (upd Hf p o) σ ρ := by
  refine S.grow (same_upd n) (same_upd (S.free n)) (fun a u e => ?_) fun a u e h => ?_
  · by_cases h : a = p
    · subst h; rw [upd_same] at e ⊢; exact e
    · rw [upd_ne h] at e ⊢; exact S.ff _ _ e
  · by_cases h' : a = p
    · subst h'; exact .inl n
    · rw [upd_ne h'] at e; rw [e] at h; cases h
/-- a new thing, not kept -/
theorem Sm.laid0 (S : Sm K mg Z C H Hf σ ρ) {p : Addr} (o : HO) (n : H p = none) : Sm K mg Z C (upd H p o) Hf σ ρ :=
  S.grow (same_upd n) (Same.refl _) (S.ff.trans (same_upd n)) fun a u e h => by rw [e] at h; cases h
/-- a list that no slot holds is kept from now on -/
theorem Sm.keep (S : Sm K mg Z C H Hf σ ρ) {p : Addr} {o : HO} (e : H p = some o) (n : Hf p = none) (nc : C p = none)
    (no : ∀ (i : Nat) (b : B), ρ[i]? = some (some b) → isOw b = true → σ[i]? ≠ some (some (.ref p))) : Sm K mg Z C H (upd Hf p o) σ ρ where
  ff := fun a u h => by
    by_cases q : a = p
    · subst q; rw [upd_same] at h; cases h; exact e
    · rw [upd_ne q] at h; exact S.ff _ _ h
  cf := S.cf
  dj := fun a u h => by
    by_cases q : a = p
    · subst q; rw [nc] at h; cases h
    · rw [upd_ne q]; exact S.dj a u h
  ln := S.ln
  sl := fun i b h => by
    obtain ⟨v, e1, r⟩ := S.sl i b h
    refine ⟨v, e1, ?_⟩
    cases b with
    | fz d => exact Rp.up r (same_upd n)
    | ow t l =>
      obtain ⟨a, xs, rfl, h1, h2, h3, h4, h5⟩ := r
      have ne : a ≠ p := fun z => no i _ h rfl (z ▸ e1)
      exact ⟨a, xs, rfl, h1, (upd_ne ne).trans h2, h3, h4.up (same_upd n), h5⟩
    | od l =>
      obtain ⟨a, xs, rfl, h1, h2, h3, h4⟩ := r
      have ne : a ≠ p := fun z => no i _ h rfl (z ▸ e1)
      exact ⟨a, xs, rfl, h1, (upd_ne ne).trans h2, h3, h4.up (same_upd n)⟩
  ds := S.ds
  cm := S.cm
/-- a slot's new content -/
theorem Sm.setB (S : Sm K mg Z C H Hf σ ρ) (i : Nat) {v : V} {b : B} (r : RpB K mg Z C H Hf b v)
    (no : isOw b = true → ∀ (j : Nat) (c : B) (a : Addr), v = .ref a → ρ[j]? = some (some c) → isOw c = true → σ[j]? ≠ some (some (.ref a))) : Sm K mg Z C H Hf (σ.set i (some v)) (ρ.set i (some b)) where
  ff := S.ff
  cf := S.cf
  dj := S.dj
  ln := by simpa using S.ln
  sl := fun j c e => by
    by_cases h : i = j
    · subst h
      have hl : i < ρ.length := by
        cases Nat.lt_or_ge i ρ.length with
        | inl q => exact q
        | inr q => rw [List.getElem?_eq_none (by simpa using q)] at e; cases e
      rw [List.getElem?_set_self hl] at e
      cases e
      exact ⟨v, List.getElem?_set_self (S.ln ▸ hl), r⟩
    · rw [List.getElem?_set_ne h] at e
      rw [List.getElem?_set_ne h]
      exact S.sl j c e
  cm := S.cm
  ds := fun j k c d a e1 e2 o1 o2 s1 s2 => by
    have sz : ∀ {q : Nat} {x : Option B}, ρ[q]? = some x → q < σ.length := fun {q x} e => by
      have := (List.getElem?_eq_some_iff.mp e).1
      rw [← S.ln]; exact this
    by_cases hj : i = j
    · by_cases hk : i = k
      · exact hj.symm.trans hk
      · exfalso
        subst hj
        rw [List.getElem?_set_ne hk] at e2 s2
        have hl : i < ρ.length := by simpa using (List.getElem?_eq_some_iff.mp e1).1
        rw [List.getElem?_set_self hl] at e1
        cases e1
        rw [List.getElem?_set_self (S.ln ▸ hl)] at s1
        have z := Option.some.inj (Option.some.inj s1)
        exact no o1 k d a z e2 o2 s2
    · by_cases hk : i = k
      · exfalso
        subst hk
        rw [List.getElem?_set_ne hj] at e1 s1
        have hl : i < ρ.length := by simpa using (List.getElem?_eq_some_iff.mp e2).1
        rw [List.getElem?_set_self hl] at e2
        cases e2
        rw [List.getElem?_set_self (S.ln ▸ hl)] at s2
        have z := Option.some.inj (Option.some.inj s2)
        exact no o2 j c a z e1 o1 s1
      · rw [List.getElem?_set_ne hj] at e1 s1
        rw [List.getElem?_set_ne hk] at e2 s2
        exact S.ds j k c d a e1 e2 o1 o2 s1 s2
theorem Sm.set (S : Sm K mg Z C H Hf σ ρ) (i : Nat) {v : V} {d : D} (r : Rp K mg Hf d v) : Sm K mg Z C H Hf (σ.set i (some v)) (ρ.set i (some (.fz d))) :=
  S.setB i r fun z => by cases z
/-- what a slot holds is read and kept from now on -/
theorem Sm.freeze (S : Sm K mg Z C H Hf σ ρ) {i : Nat} {t : Nat} {l : List D} (e : ρ[i]? = some (some (.ow t l))) :
    ∃ a xs, σ[i]? = some (some (.ref a)) ∧ H a = some (.lst xs) ∧ Hf a = none ∧ Sm K mg Z C H (upd Hf a (.lst xs)) σ (ρ.set i (some (.fz (.lst l)))) ∧ Rp K mg (upd Hf a (.lst xs)) (.lst l) (.ref a) := by
  obtain ⟨v, e1, a, xs, rfl, h1, h2, h3, h4, _⟩ := S.sl i _ e
  have nx : Sm K mg Z C H Hf σ (ρ.set i none) := by
    refine ⟨S.ff, S.cf, S.dj, by simpa using S.ln, fun j c q => ?_, fun j k c d b q1 q2 => ?_, S.cm⟩
    · by_cases h : i = j
      · subst h
        rw [List.getElem?_set_self (List.getElem?_eq_some_iff.mp e).1] at q; cases q
      · rw [List.getElem?_set_ne h] at q; exact S.sl j c q
    · have f : ∀ {j c}, (ρ.set i none)[j]? = some (some c) → ρ[j]? = some (some c) := fun {j c} q => by
        by_cases h : i = j
        · subst h
          rw [List.getElem?_set_self (List.getElem?_eq_some_iff.mp e).1] at q; cases q
        · rw [List.getElem?_set_ne h] at q; exact q
      exact S.ds j k c d b (f q1) (f q2)
  have kp := nx.keep h1 h2 h3 (fun j c q o z => by
    by_cases h : i = j
    · subst h
      rw [List.getElem?_set_self (List.getElem?_eq_some_iff.mp e).1] at q; cases q
    · rw [List.getElem?_set_ne h] at q
      exact h (S.ds i j _ c a e q rfl o e1 z))
  have r : Rp K mg (upd Hf a (.lst xs)) (.lst l) (.ref a) := .lst upd_same (h4.up (same_upd h2))
  have fin := kp.set i r
  rw [List.set_set] at fin
  have eσ : σ.set i (some (.ref a)) = σ := by
    apply List.ext_getElem?
    intro j
    by_cases h : i = j
    · subst h
      rw [List.getElem?_set_self (List.getElem?_eq_some_iff.mp e1).1, e1]
    · rw [List.getElem?_set_ne h]
  rw [eσ] at fin
  exact ⟨a, xs, e1, h1, h2, fin, r⟩
theorem Sm.freezeD (S : Sm K mg Z C H Hf σ ρ) {i : Nat} {l : List (List Int × D)} (e : ρ[i]? = some (some (.od l))) :
    ∃ a kvs, σ[i]? = some (some (.ref a)) ∧ H a = some (.dT kvs) ∧ Hf a = none ∧ Sm K mg Z C H (upd Hf a (.dT kvs)) σ (ρ.set i (some (.fz (.dic l)))) ∧ Rp K mg (upd Hf a (.dT kvs)) (.dic l) (.ref a) := by
  obtain ⟨v, e1, a, xs, rfl, h1, h2, h3, h4⟩ := S.sl i _ e
  have nx : Sm K mg Z C H Hf σ (ρ.set i none) := by
    refine ⟨S.ff, S.cf, S.dj, by simpa using S.ln, fun j c q => ?_, fun j k c d b q1 q2 => ?_, S.cm⟩
    · by_cases h : i = j
      · subst h
        rw [List.getElem?_set_self (List.getElem?_eq_some_iff.mp e).1] at q; cases q
      · rw [List.getElem?_set_ne h] at q; exact S.sl j c q
    · have f : ∀ {j c}, (ρ.set i none)[j]? = some (some c) → ρ[j]? = some (some c) := fun {j c} q => by
        by_cases h : i = j
        · subst h
          rw [List.getElem?_set_self (List.getElem?_eq_some_iff.mp e).1] at q; cases q
        · rw [List.getElem?_set_ne h] at q; exact q
      exact S.ds j k c d b (f q1) (f q2)
  have kp := nx.keep h1 h2 h3 (fun j c q o z => by
    by_cases h : i = j
    · subst h
      rw [List.getElem?_set_self (List.getElem?_eq_some_iff.mp e).1] at q; cases q
    · rw [List.getElem?_set_ne h] at q
      exact h (S.ds i j _ c a e q rfl o e1 z))
  have r : Rp K mg (upd Hf a (.dT xs)) (.dic l) (.ref a) := .dic (.inl upd_same) (h4.up (same_upd h2))
  have fin := kp.set i r
  rw [List.set_set] at fin
  have eσ : σ.set i (some (.ref a)) = σ := by
    apply List.ext_getElem?
    intro j
    by_cases h : i = j
    · subst h
      rw [List.getElem?_set_self (List.getElem?_eq_some_iff.mp e1).1, e1]
    · rw [List.getElem?_set_ne h]
  rw [eσ] at fin
  exact ⟨a, xs, e1, h1, h2, fin, r⟩
/-- a list that a slot holds alone is changed -/
theorem Sm.chg (S : Sm K mg Z C H Hf σ ρ) {i t : Nat} {l l' : List D} (e : ρ[i]? = some (some (.ow t l))) {a : Addr} (ea : σ[i]? = some (some (.ref a))) {xs' : List V} (r : RpA K mg Hf l' xs') :
    Sm K mg Z C (upd H a (.lst xs')) Hf σ (ρ.set i (some (.ow t l'))) := by
  obtain ⟨v, e1, a', xs, rfl, h1, h2, h3, h4, h5⟩ := S.sl i _ e
  rw [ea] at e1
  have ez : a = a' := by cases e1; rfl
  subst ez
  refine ⟨fun b o q => ?_, fun b o q => ?_, S.dj, by simpa using S.ln, fun j c q => ?_, fun j k c d b q1 q2 o1 o2 s1 s2 => ?_, S.cm⟩
  · have ne : b ≠ a := fun z => by rw [z, h2] at q; cases q
    rw [upd_ne ne]; exact S.ff _ _ q
  · have ne : b ≠ a := fun z => by rw [z, h3] at q; cases q
    rw [upd_ne ne]; exact S.cf _ _ q
  · by_cases h : i = j
    · subst h
      rw [List.getElem?_set_self (List.getElem?_eq_some_iff.mp e).1] at q
      cases q
      exact ⟨_, ea, a, xs', rfl, upd_same, h2, h3, r, h5⟩
    · rw [List.getElem?_set_ne h] at q
      obtain ⟨v, e2, r2⟩ := S.sl j c q
      refine ⟨v, e2, ?_⟩
      cases c with
      | fz d => exact r2
      | ow t2 l2 =>
        obtain ⟨a2, ys, rfl, g1, g2, g3, g4, g5⟩ := r2
        have ne : a2 ≠ a := fun z => h (S.ds i j _ _ a e q rfl rfl ea (z ▸ e2))
        exact ⟨a2, ys, rfl, (upd_ne ne).trans g1, g2, g3, g4, g5⟩
      | od l2 =>
        obtain ⟨a2, ys, rfl, g1, g2, g3, g4⟩ := r2
        have ne : a2 ≠ a := fun z => h (S.ds i j _ _ a e q rfl rfl ea (z ▸ e2))
        exact ⟨a2, ys, rfl, (upd_ne ne).trans g1, g2, g3, g4⟩
  · have f : ∀ {j c}, (ρ.set i (some (.ow t l')))[j]? = some (some c) → isOw c = true → ∃ c', ρ[j]? = some (some c') ∧ isOw c' = true := fun {j c} q o => by
      by_cases h : i = j
      · subst h; exact ⟨_, e, rfl⟩
      · rw [List.getElem?_set_ne h] at q; exact ⟨c, q, o⟩
    obtain ⟨c', q1', o1'⟩ := f q1 o1
    obtain ⟨d', q2', o2'⟩ := f q2 o2
    exact S.ds j k c' d' b q1' q2' o1' o2' s1 s2
theorem Sm.chgD (S : Sm K mg Z C H Hf σ ρ) {i : Nat} {l l' : List (List Int × D)} (e : ρ[i]? = some (some (.od l))) {a : Addr} (ea : σ[i]? = some (some (.ref a))) {xs' : List (List Key × V)} (r : RpK K mg Hf l' xs') :
    Sm K mg Z C (upd H a (.dT xs')) Hf σ (ρ.set i (some (.od l'))) := by
  obtain ⟨v, e1, a', xs, rfl, h1, h2, h3, h4⟩ := S.sl i _ e
  rw [ea] at e1
  have ez : a = a' := by cases e1; rfl
  subst ez
  refine ⟨fun b o q => ?_, fun b o q => ?_, S.dj, by simpa using S.ln, fun j c q => ?_, fun j k c d b q1 q2 o1 o2 s1 s2 => ?_, S.cm⟩
  · have ne : b ≠ a := fun z => by rw [z, h2] at q; cases q
    rw [upd_ne ne]; exact S.ff _ _ q
  · have ne : b ≠ a := fun z => by rw [z, h3] at q; cases q
    rw [upd_ne ne]; exact S.cf _ _ q
  · by_cases h : i = j
    · subst h
      rw [List.getElem?_set_self (List.getElem?_eq_some_iff.mp e).1] at q
      cases q
      exact ⟨_, ea, a, xs', rfl, upd_same, h2, h3, r⟩
    · rw [List.getElem?_set_ne h] at q
      obtain ⟨v, e2, r2⟩ := S.sl j c q
      refine ⟨v, e2, ?_⟩
      cases c with
      | fz d => exact r2
      | ow t2 l2 =>
        obtain ⟨a2, ys, rfl, g1, g2, g3, g4, g5⟩ := r2
        have ne : a2 ≠ a := fun z => h (S.ds i j _ _ a e q rfl rfl ea (z ▸ e2))
        exact ⟨a2, ys, rfl, (upd_ne ne).trans g1, g2, g3, g4, g5⟩
      | od l2 =>
        obtain ⟨a2, ys, rfl, g1, g2, g3, g4⟩ := r2
        have ne : a2 ≠ a := fun z => h (S.ds i j _ _ a e q rfl rfl ea (z ▸ e2))
        exact ⟨a2, ys, rfl, (upd_ne ne).trans g1, g2, g3, g4⟩
  · have f : ∀ {j c}, (ρ.set i (some (.od l')))[j]? = some (some c) → isOw c = true → ∃ c', ρ[j]? = some (some c') ∧ isOw c' = true := fun {j c} q o => by
      by_cases h : i = j
      · subst h; exact ⟨_, e, rfl⟩
      · rw [List.getElem?_set_ne h] at q; exact ⟨c, q, o⟩
    obtain ⟨c', q1', o1'⟩ := f q1 o1
    obtain ⟨d', q2', o2'⟩ := f q2 o2
    exact S.ds j k c' d' b q1' q2' o1' o2' s1 s2
end
end DL

set_option Elab.async false
set_option linter.all false
set_option maxRecDepth 100000
set_option maxHeartbeats 2000000
/-! DL2: outcomes (Post), readings by data: expressions, tests, arguments -/
namespace DL
open PySem PySem.Spec PyProof.Rows L2

/-- what is wanted of an outcome -/
def Post {α β : Type} (K : PySem.W.Frag) (mg : Str → Option Value) (Z : Addr) (W : WX) (C : Hp) (σ : Sl) (Hf : Hp) (R : Hp → Hp → Rho → α → β → Prop) (Q : β → Hp → Prop) : Res (α × Rho) → Prop
  | .ok (r, ρ') => ∀ v H' Hf', Same Hf Hf' → Sm K mg Z C H' Hf' σ ρ' → R H' Hf' ρ' r v → Q v H'
  | .er e ρ' => ∀ H' Hf' a, Same Hf Hf' → Sm K mg Z C H' Hf' σ ρ' → mg e = some (.ref a) → W (.ref a) none σ H'
  | .bad => False
section
variable {α β γ δ : Type} {K : PySem.W.Frag} {mg : Str → Option Value} {Z : Addr} {W : WX} {C H Hf Hf' : Hp} {σ : Sl} {ρ : Rho} {R : Hp → Hp → Rho → α → β → Prop} {R' : Hp → Hp → Rho → γ → δ → Prop} {Q : β → Hp → Prop} {Q' : δ → Hp → Prop}
theorem Post.up {m : Res (α × Rho)} (h : Post K mg Z W C σ Hf R Q m) (s : Same Hf Hf') : Post K mg Z W C σ Hf' R Q m := by
  cases m with
  | ok p => obtain ⟨r, ρ'⟩ := p; exact fun v H1 Hf1 s1 S r => h v H1 Hf1 (s.trans s1) S r
  | er e ρ' => exact fun H1 Hf1 a s1 S r => h H1 Hf1 a (s.trans s1) S r
  | bad => exact h
theorem Post.bind {m : Res (α × Rho)} {f : α × Rho → Res (γ × Rho)} (h : Post K mg Z W C σ Hf R' Q' (m.bind f))
    (k : ∀ r ρ' v H' Hf', Same Hf Hf' → Sm K mg Z C H' Hf' σ ρ' → R H' Hf' ρ' r v → Post K mg Z W C σ Hf' R' Q' (f (r, ρ')) → Q v H') : Post K mg Z W C σ Hf R Q m := by
  cases m with
  | ok p => obtain ⟨r, ρ'⟩ := p; exact fun v H1 Hf1 s1 S q => k r ρ' v H1 Hf1 s1 S q (Post.up h s1)
  | er e ρ' => exact h
  | bad => exact h
theorem Post.done {r : α} {v : β} {H : Hp} (h : Post K mg Z W C σ Hf R Q (.ok (r, ρ))) (S : Sm K mg Z C H Hf σ ρ) (q : R H Hf ρ r v) : Q v H := h v H Hf (Same.refl _) S q
theorem Post.done' {r : α} {v : β} {H' : Hp} (h : Post K mg Z W C σ Hf R Q (.ok (r, ρ))) (s : Same Hf Hf') (S : Sm K mg Z C H' Hf' σ ρ) (q : R H' Hf' ρ r v) : Q v H' := h v H' Hf' s S q
end

abbrev ED := Rho → Res (D × Rho)
abbrev AD := Rho → Res (List D × Rho)
abbrev TD := Rho → Res (Bool × Rho)
abbrev RD (K : PySem.W.Frag) (mg : Str → Option Value) : Hp → Hp → Rho → D → V → Prop := fun _ Hf _ d v => Rp K mg Hf d v
abbrev RA (K : PySem.W.Frag) (mg : Str → Option Value) : Hp → Hp → Rho → List D → List V → Prop := fun _ Hf _ d v => RpA K mg Hf d v
abbrev RT : Hp → Hp → Rho → Bool → Bool → Prop := fun _ _ _ a b => a = b
/-- no slot holds the thing at a alone -/
def NoOw (σ : Sl) (ρ : Rho) (a : Addr) : Prop := ∀ (i : Nat) (b : B), ρ[i]? = some (some b) → isOw b = true → σ[i]? ≠ some (some (.ref a))
/-- a new list that nothing else holds -/
abbrev RO (K : PySem.W.Frag) (mg : Str → Option Value) (C : Hp) (σ : Sl) : Hp → Hp → Rho → List D → V → Prop := fun H Hf ρ l v => ∃ a xs, v = .ref a ∧ H a = some (.lst xs) ∧ Hf a = none ∧ C a = none ∧ NoOw σ ρ a ∧ RpA K mg Hf l xs

structure WE (K : PySem.W.Frag) (mg : Str → Option Value) (W : WX) (t : TE) (d : ED) : Prop where
  run : ∀ Z C H Hf σ ρ Q, Sm K mg Z C H Hf σ ρ → Post K mg Z W C σ Hf (RD K mg) Q (d ρ) → t σ H Q
structure WO (K : PySem.W.Frag) (mg : Str → Option Value) (W : WX) (t : TE) (d : AD) : Prop where
  run : ∀ Z C H Hf σ ρ Q, Sm K mg Z C H Hf σ ρ → Post K mg Z W C σ Hf (RO K mg C σ) Q (d ρ) → t σ H Q
structure WA (K : PySem.W.Frag) (mg : Str → Option Value) (W : WX) (t : TA) (d : AD) : Prop where
  run : ∀ Z C H Hf σ ρ Q, Sm K mg Z C H Hf σ ρ → Post K mg Z W C σ Hf (RA K mg) Q (d ρ) → t σ H Q
structure WT (K : PySem.W.Frag) (mg : Str → Option Value) (W : WX) (t : TT) (d : TD) : Prop where
  run : ∀ Z C H Hf σ ρ Q, Sm K mg Z C H Hf σ ρ → Post K mg Z W C σ Hf RT Q (d ρ) → t σ H Q

/-- an operation's answer, none: nothing is said -/
def lift {α : Type} (o : Option α) (ρ : Rho) : Res (α × Rho) := match o with
  | some a => .ok (a, ρ)
  | none => .bad

/-! ### denotations -/
def dVar (i : Nat) : ED := fun ρ => match ρ[i]? with
  | some (some (.fz d)) => .ok (d, ρ)
  | some (some (.ow _ l)) => .ok (.lst l, ρ.set i (some (.fz (.lst l))))
  | some (some (.od l)) => .ok (.dic l, ρ.set i (some (.fz (.dic l))))
  | _ => .bad
def dC (d : D) : ED := fun ρ => .ok (d, ρ)
def dOp (f : D → D → Option D) (a b : ED) : ED := fun ρ => (a ρ).bind fun p => (b p.2).bind fun q => lift (f p.1 q.1) q.2
def dUn (f : D → Option D) (a : ED) : ED := fun ρ => (a ρ).bind fun p => lift (f p.1) p.2
def aNil : AD := fun ρ => .ok ([], ρ)
def aCons (a : ED) (r : AD) : AD := fun ρ => (a ρ).bind fun p => (r p.2).bind fun q => .ok (p.1 :: q.1, q.2)
def dTup (a : AD) : ED := fun ρ => (a ρ).bind fun p => if p.1.length ≤ 1000000 then .ok (.tup p.1, p.2) else .bad
def oLst (a : AD) : AD := fun ρ => (a ρ).bind fun p => if p.1.length ≤ 1000000 then .ok (p.1, p.2) else .bad
/-- a new list, kept from the start -/
def dFz (o : AD) : ED := fun ρ => (o ρ).bind fun p => .ok (.lst p.1, p.2)
def dCb (f : List D → Option D) (a : AD) : ED := fun ρ => (a ρ).bind fun p => lift (f p.1) p.2
def oCb (f : List D → Option (List D)) (a : AD) : AD := fun ρ => (a ρ).bind fun p => lift (f p.1) p.2
/-- a test -/
def tBl (a : ED) : TD := fun ρ => (a ρ).bind fun p => match p.1 with
  | .bl b => .ok (b, p.2)
  | _ => .bad
def tAn (a b : TD) : TD := fun ρ => (a ρ).bind fun p => if p.1 = true then b p.2 else .ok (false, p.2)
def tOR (a b : TD) : TD := fun ρ => (a ρ).bind fun p => if p.1 = true then .ok (true, p.2) else b p.2
def tNo (a : TD) : TD := fun ρ => (a ρ).bind fun p => .ok (!p.1, p.2)
def dAnd (a b : ED) : ED := fun ρ => (a ρ).bind fun p => match p.1 with
  | .bl true => b p.2
  | .bl false => .ok (.bl false, p.2)
  | _ => .bad
def dOr (a b : ED) : ED := fun ρ => (a ρ).bind fun p => match p.1 with
  | .bl true => .ok (.bl true, p.2)
  | .bl false => b p.2
  | _ => .bad
def dIf (c : TD) (a b : ED) : ED := fun ρ => (c ρ).bind fun p => if p.1 = true then a p.2 else b p.2
/-- x <= y <= z -/
def dChain (f g : D → D → Option D) (a b c : ED) : ED := fun ρ => (a ρ).bind fun p => (b p.2).bind fun q => match f p.1 q.1 with
  | some (.bl true) => (c q.2).bind fun r => lift (g q.1 r.1) r.2
  | some (.bl false) => .ok (.bl false, q.2)
  | _ => .bad

section
variable {K : PySem.W.Frag} {mg : Str → Option Value} {W : WX}
/-- an operation by values does what f says -/
def OpD (K : PySem.W.Frag) (mg : Str → Option Value) (r : R2) (f : D → D → Option D) : Prop :=
  ∀ Z W C H Hf σ ρ x y v u Q, Sm K mg Z C H Hf σ ρ → Rp K mg Hf x v → Rp K mg Hf y u → Post K mg Z W C σ Hf (RD K mg) Q (lift (f x y) ρ) → r v u H Q
def UnD (K : PySem.W.Frag) (mg : Str → Option Value) (r : V → Hp → VK → Prop) (f : D → Option D) : Prop :=
  ∀ Z W C H Hf σ ρ x v Q, Sm K mg Z C H Hf σ ρ → Rp K mg Hf x v → Post K mg Z W C σ Hf (RD K mg) Q (lift (f x) ρ) → r v H Q
def CbD (K : PySem.W.Frag) (mg : Str → Option Value) (r : List V → Hp → VK → Prop) (f : List D → Option D) : Prop :=
  ∀ Z W C H Hf σ ρ xs vs Q, Sm K mg Z C H Hf σ ρ → RpA K mg Hf xs vs → Post K mg Z W C σ Hf (RD K mg) Q (lift (f xs) ρ) → r vs H Q
def CoD (K : PySem.W.Frag) (mg : Str → Option Value) (r : List V → Hp → VK → Prop) (f : List D → Option (List D)) : Prop :=
  ∀ Z W C H Hf σ ρ xs vs Q, Sm K mg Z C H Hf σ ρ → RpA K mg Hf xs vs → Post K mg Z W C σ Hf (RO K mg C σ) Q (lift (f xs) ρ) → r vs H Q
theorem NoOw.of {Z : Addr} {C H Hf : Hp} {σ : Sl} {ρ : Rho} (S : Sm K mg Z C H Hf σ ρ) {a : Addr} (n : H a = none) : NoOw σ ρ a := fun i b e o z => by
  obtain ⟨v, e1, r⟩ := S.sl i b e
  obtain ⟨a', rfl, _, _, q, hq⟩ := r.addr o
  rw [e1] at z
  have : a' = a := by cases z; rfl
  rw [this, n] at hq; cases hq
theorem w_var (i : Nat) : WE K mg W (tVar i) (dVar i) := ⟨fun Z C H Hf σ ρ Q S h => by
  unfold dVar at h
  cases e : ρ[i]? with
  | none => rw [e] at h; exact h.elim
  | some b =>
    cases b with
    | none => rw [e] at h; exact h.elim
    | some b =>
      rw [e] at h
      obtain ⟨v, e1, r⟩ := S.sl i b e
      cases b with
      | fz d => exact ⟨v, e1, h.done S r⟩
      | ow t l =>
        obtain ⟨a, xs, e2, h1, h2, S', r'⟩ := S.freeze e
        exact ⟨_, e2, h _ _ _ (same_upd h2) S' r'⟩
      | od l =>
        obtain ⟨a, xs, e2, h1, h2, S', r'⟩ := S.freezeD e
        exact ⟨_, e2, h _ _ _ (same_upd h2) S' r'⟩⟩
theorem w_c {d : D} {v : V} (r : ∀ Hf, Rp K mg Hf d v) : WE K mg W (tC v) (dC d) := ⟨fun Z C H Hf σ ρ Q S h => h.done S (r Hf)⟩
theorem w_op {r : R2} {f : D → D → Option D} {ta tb : TE} {da db : ED} (o : OpD K mg r f) (ha : WE K mg W ta da) (hb : WE K mg W tb db) : WE K mg W (tOp r ta tb) (dOp f da db) :=
  ⟨fun Z C H Hf σ ρ Q S h => ha.run Z C H Hf σ ρ _ S (Post.bind h fun x ρ1 v H1 Hf1 s1 S1 rx h1 =>
    hb.run Z C H1 Hf1 σ ρ1 _ S1 (Post.bind h1 fun y ρ2 u H2 Hf2 s2 S2 ry h2 => o Z W C H2 Hf2 σ ρ2 x y v u Q S2 (rx.up s2) ry h2))⟩
theorem w_un {r : V → Hp → VK → Prop} {f : D → Option D} {ta : TE} {da : ED} (o : UnD K mg r f) (ha : WE K mg W ta da) : WE K mg W (tUn r ta) (dUn f da) :=
  ⟨fun Z C H Hf σ ρ Q S h => ha.run Z C H Hf σ ρ _ S (Post.bind h fun x ρ1 v H1 Hf1 s1 S1 rx h1 => o Z W C H1 Hf1 σ ρ1 x v Q S1 rx h1)⟩
theorem w_nil : WA K mg W tNil aNil := ⟨fun Z C H Hf σ ρ Q S h => h.done S .nil⟩
theorem w_cons {te : TE} {tr : TA} {de : ED} {dr : AD} (he : WE K mg W te de) (hr : WA K mg W tr dr) : WA K mg W (tCons te tr) (aCons de dr) :=
  ⟨fun Z C H Hf σ ρ Q S h => he.run Z C H Hf σ ρ _ S (Post.bind h fun x ρ1 v H1 Hf1 s1 S1 rx h1 =>
    hr.run Z C H1 Hf1 σ ρ1 _ S1 (Post.bind h1 fun xs ρ2 vs H2 Hf2 s2 S2 rxs h2 => h2.done S2 (.cons (rx.up s2) rxs)))⟩
theorem sz_ok {n : Nat} (h : n ≤ 1000000) : n ≤ sizeLine := by rw [sizeLine_eq]; omega
theorem w_tup {t : TA} {a : AD} (h : WA K mg W t a) : WE K mg W (tTup t) (dTup a) :=
  ⟨fun Z C H Hf σ ρ Q S hp => h.run Z C H Hf σ ρ _ S (Post.bind hp fun xs ρ1 vs H1 Hf1 s1 S1 r h1 => by
    dsimp only at h1
    split at h1
    · rename_i hl
      refine ⟨sz_ok (r.length ▸ hl), fun p np => h1 _ _ _ (same_upd (S1.free np)) (S1.laid (.tup vs) np) (.tup upd_same (r.up (same_upd (S1.free np))))⟩
    · exact h1.elim)⟩
theorem w_lstO {t : TA} {a : AD} (h : WA K mg W t a) : WO K mg W (tLst t) (oLst a) :=
  ⟨fun Z C H Hf σ ρ Q S hp => h.run Z C H Hf σ ρ _ S (Post.bind hp fun xs ρ1 vs H1 Hf1 s1 S1 r h1 => by
    dsimp only at h1
    split at h1
    · rename_i hl
      refine ⟨sz_ok (r.length ▸ hl), fun p np => h1 _ _ _ (Same.refl _) (S1.laid0 (.lst vs) np) ⟨p, vs, rfl, upd_same, S1.free np, S1.freeC np, ?_, r⟩⟩
      exact NoOw.of S1 np
    · exact h1.elim)⟩
/-- a new list is kept -/
theorem w_fz {t : TE} {o : AD} (h : WO K mg W t o) : WE K mg W t (dFz o) :=
  ⟨fun Z C H Hf σ ρ Q S hp => h.run Z C H Hf σ ρ _ S (Post.bind hp fun l ρ1 v H1 Hf1 s1 S1 r h1 => by
    obtain ⟨a, xs, rfl, e, n, nc, no, rr⟩ := r
    exact h1 _ _ _ (same_upd n) (S1.keep e n nc no) (.lst upd_same (rr.up (same_upd n))))⟩
theorem w_cb {r : List V → Hp → VK → Prop} {f : List D → Option D} {t : TA} {a : AD} (o : CbD K mg r f) (ha : WA K mg W t a) : WE K mg W (tCB r t) (dCb f a) :=
  ⟨fun Z C H Hf σ ρ Q S h => ha.run Z C H Hf σ ρ _ S (Post.bind h fun xs ρ1 vs H1 Hf1 s1 S1 rx h1 => o Z W C H1 Hf1 σ ρ1 xs vs Q S1 rx h1)⟩
theorem w_co {r : List V → Hp → VK → Prop} {f : List D → Option (List D)} {t : TA} {a : AD} (o : CoD K mg r f) (ha : WA K mg W t a) : WO K mg W (tCB r t) (oCb f a) :=
  ⟨fun Z C H Hf σ ρ Q S h => ha.run Z C H Hf σ ρ _ S (Post.bind h fun xs ρ1 vs H1 Hf1 s1 S1 rx h1 => o Z W C H1 Hf1 σ ρ1 xs vs Q S1 rx h1)⟩
/-! tests -/
theorem w_bl {t : TE} {d : ED} (h : WE K mg W t d) : WT K mg W (tB t) (tBl d) :=
  ⟨fun Z C H Hf σ ρ Q S hp => h.run Z C H Hf σ ρ _ S (Post.bind hp fun x ρ1 v H1 Hf1 s1 S1 r h1 => by
    cases x with
    | bl b => cases r; exact ⟨b, rfl, h1.done S1 rfl⟩
    | _ => exact h1.elim)⟩
theorem w_test {t : TE} {d : ED} (h : WE K mg W t d) : WT K mg W (tTest t) (tBl d) :=
  ⟨fun Z C H Hf σ ρ Q S hp => h.run Z C H Hf σ ρ _ S (Post.bind hp fun x ρ1 v H1 Hf1 s1 S1 r h1 => by
    cases x with
    | bl b => cases r; exact ⟨b, rfl, h1.done S1 rfl⟩
    | _ => exact h1.elim)⟩
theorem w_an {t u : TT} {a b : TD} (ha : WT K mg W t a) (hb : WT K mg W u b) : WT K mg W (tAnd t u) (tAn a b) :=
  ⟨fun Z C H Hf σ ρ Q S hp => ha.run Z C H Hf σ ρ _ S (Post.bind hp fun x ρ1 v H1 Hf1 s1 S1 r h1 => by
    cases r
    cases x with
    | true => exact iteT (hb.run Z C H1 Hf1 σ ρ1 Q S1 h1)
    | false => exact iteF (h1.done S1 rfl))⟩
theorem w_oR {t u : TT} {a b : TD} (ha : WT K mg W t a) (hb : WT K mg W u b) : WT K mg W (L2.tOr t u) (tOR a b) :=
  ⟨fun Z C H Hf σ ρ Q S hp => ha.run Z C H Hf σ ρ _ S (Post.bind hp fun x ρ1 v H1 Hf1 s1 S1 r h1 => by
    cases r
    cases x with
    | true => exact iteT (h1.done S1 rfl)
    | false => exact iteF (hb.run Z C H1 Hf1 σ ρ1 Q S1 h1))⟩
theorem w_no {t : TT} {a : TD} (ha : WT K mg W t a) : WT K mg W (tNot t) (tNo a) :=
  ⟨fun Z C H Hf σ ρ Q S hp => ha.run Z C H Hf σ ρ _ S (Post.bind hp fun x ρ1 v H1 Hf1 s1 S1 r h1 => by
    cases r
    exact h1.done S1 rfl)⟩
theorem w_and {t u : TE} {a b : ED} (ha : WE K mg W t a) (hb : WE K mg W u b) : WE K mg W (tAndV t u) (dAnd a b) :=
  ⟨fun Z C H Hf σ ρ Q S hp => ha.run Z C H Hf σ ρ _ S (Post.bind hp fun x ρ1 v H1 Hf1 s1 S1 r h1 => by
    cases x with
    | bl k =>
      cases r
      cases k with
      | true => exact ⟨true, rfl, iteT (hb.run Z C H1 Hf1 σ ρ1 Q S1 h1)⟩
      | false => exact ⟨false, rfl, iteF (h1.done S1 (.bl false))⟩
    | _ => exact h1.elim)⟩
theorem w_or {t u : TE} {a b : ED} (ha : WE K mg W t a) (hb : WE K mg W u b) : WE K mg W (tOrV t u) (dOr a b) :=
  ⟨fun Z C H Hf σ ρ Q S hp => ha.run Z C H Hf σ ρ _ S (Post.bind hp fun x ρ1 v H1 Hf1 s1 S1 r h1 => by
    cases x with
    | bl k =>
      cases r
      cases k with
      | true => exact ⟨true, rfl, iteT (h1.done S1 (.bl true))⟩
      | false => exact ⟨false, rfl, iteF (hb.run Z C H1 Hf1 σ ρ1 Q S1 h1)⟩
    | _ => exact h1.elim)⟩
def notD : D → Option D
  | .bl b => some (.bl (!b))
  | _ => none
theorem w_not {t : TE} {a : ED} (ha : WE K mg W t a) : WE K mg W (tNotV t) (dUn notD a) :=
  ⟨fun Z C H Hf σ ρ Q S hp => ha.run Z C H Hf σ ρ _ S (Post.bind hp fun x ρ1 v H1 Hf1 s1 S1 r h1 => by
    cases x with
    | bl k => cases r; exact ⟨k, rfl, h1.done S1 (.bl _)⟩
    | _ => exact h1.elim)⟩
theorem w_if {c : TT} {t u : TE} {k : TD} {a b : ED} (hc : WT K mg W c k) (ha : WE K mg W t a) (hb : WE K mg W u b) : WE K mg W (L2.tIf c t u) (dIf k a b) :=
  ⟨fun Z C H Hf σ ρ Q S hp => hc.run Z C H Hf σ ρ _ S (Post.bind hp fun x ρ1 v H1 Hf1 s1 S1 r h1 => by
    cases r
    cases x with
    | true => exact iteT (ha.run Z C H1 Hf1 σ ρ1 Q S1 h1)
    | false => exact iteF (hb.run Z C H1 Hf1 σ ρ1 Q S1 h1))⟩
/-- an operation that makes nothing new -/
def OpB (K : PySem.W.Frag) (mg : Str → Option Value) (r : R2) (f : D → D → Option D) : Prop :=
  ∀ Z C H Hf σ ρ x y v u Q, Sm K mg Z C H Hf σ ρ → Rp K mg Hf x v → Rp K mg Hf y u → (∀ z, f x y = some z → (∃ b, z = .bl b) ∧ ∀ b, z = .bl b → Q (.bl b) H) → f x y ≠ none → r v u H Q
theorem OpB.d {r : R2} {f : D → D → Option D} (o : OpB K mg r f) (hb : ∀ x y z, f x y = some z → ∃ b, z = .bl b) : OpD K mg r f := fun Z W C H Hf σ ρ x y v u Q S rx ry h => by
  refine o Z C H Hf σ ρ x y v u Q S rx ry (fun z e => ⟨hb x y z e, fun b eb => ?_⟩) (fun e => by rw [e] at h; exact h)
  rw [e, eb] at h
  exact h.done S (.bl b)
theorem w_chain {r r' : R2} {f g : D → D → Option D} {ta tb tc : TE} {a b c : ED} (o : OpB K mg r f) (hbf : ∀ x y z, f x y = some z → ∃ b, z = .bl b) (o' : OpD K mg r' g) (ha : WE K mg W ta a) (hb : WE K mg W tb b) (hc : WE K mg W tc c) :
    WE K mg W (tChain r r' ta tb tc) (dChain f g a b c) :=
  ⟨fun Z C H Hf σ ρ Q S h => ha.run Z C H Hf σ ρ _ S (Post.bind h fun x ρ1 v H1 Hf1 s1 S1 rx h1 =>
    hb.run Z C H1 Hf1 σ ρ1 _ S1 (Post.bind h1 fun y ρ2 u H2 Hf2 s2 S2 ry h2 => by
      dsimp only at h2
      refine o Z C H2 Hf2 σ ρ2 x y v u _ S2 (rx.up s2) ry (fun z e => ⟨hbf x y z e, fun k ek => ?_⟩) (fun e => by rw [e] at h2; exact h2)
      subst ek
      rw [e] at h2
      cases k with
      | true =>
        refine ⟨true, rfl, iteT (hc.run Z C H2 Hf2 σ ρ2 _ S2 (Post.bind h2 fun z ρ3 w' H3 Hf3 s3 S3 rz h3 => o' Z W C H3 Hf3 σ ρ3 y z u w' Q S3 (ry.up s3) rz h3))⟩
      | false => exact ⟨false, rfl, iteF (h2.done S2 (.bl false))⟩))⟩
end
end DL

set_option Elab.async false
set_option linter.all false
set_option maxRecDepth 100000
set_option maxHeartbeats 2000000
/-! DL3: readings by data: statements, targets, loops, comprehensions -/
namespace DL
open PySem PySem.Spec PyProof.Rows L2

inductive Fl where
  | nx (ρ : Rho) | rt (r : D) (ρ : Rho) | ro (l : List D) (ρ : Rho) | bk (ρ : Rho) | ct (ρ : Rho)
abbrev SD := Rho → Res Fl
abbrev GD := D → Rho → Res Rho
abbrev GsD := List D → Rho → Res Rho
abbrev ID := Rho → Res (List D × Rho)

def PostS (K : PySem.W.Frag) (mg : Str → Option Value) (Z : Addr) (W : WX) (C Hf : Hp) (N : Ends) : Res Fl → Prop
  | .ok (.nx ρ') => ∀ σ' H' Hf', Same Hf Hf' → Sm K mg Z C H' Hf' σ' ρ' → N.nx σ' H'
  | .ok (.rt r ρ') => ∀ v σ' H' Hf', Same Hf Hf' → Sm K mg Z C H' Hf' σ' ρ' → Rp K mg Hf' r v → N.rt v H'
  | .ok (.ro l ρ') => ∀ v σ' H' Hf', Same Hf Hf' → Sm K mg Z C H' Hf' σ' ρ' → RO K mg C σ' H' Hf' ρ' l v → N.rt v H'
  | .ok (.bk ρ') => ∀ σ' H' Hf', Same Hf Hf' → Sm K mg Z C H' Hf' σ' ρ' → N.bk σ' H'
  | .ok (.ct ρ') => ∀ σ' H' Hf', Same Hf Hf' → Sm K mg Z C H' Hf' σ' ρ' → N.ct σ' H'
  | .er e ρ' => ∀ σ' H' Hf' a, Same Hf Hf' → Sm K mg Z C H' Hf' σ' ρ' → mg e = some (.ref a) → W (.ref a) none σ' H'
  | .bad => False
def PostG (K : PySem.W.Frag) (mg : Str → Option Value) (Z : Addr) (C Hf : Hp) (Q : Sl → Hp → Prop) : Res Rho → Prop
  | .ok ρ' => ∀ σ' H' Hf', Same Hf Hf' → Sm K mg Z C H' Hf' σ' ρ' → Q σ' H'
  | _ => False
structure WS (K : PySem.W.Frag) (mg : Str → Option Value) (W : WX) (t : TS) (d : SD) : Prop where
  run : ∀ Z C H Hf σ ρ N, Sm K mg Z C H Hf σ ρ → PostS K mg Z W C Hf N (d ρ) → t N σ H
structure WG (K : PySem.W.Frag) (mg : Str → Option Value) (g : TG) (d : GD) : Prop where
  run : ∀ Z C H Hf σ ρ v x Q, Sm K mg Z C H Hf σ ρ → Rp K mg Hf x v → PostG K mg Z C Hf Q (d x ρ) → g v σ H Q
structure WGs (K : PySem.W.Frag) (mg : Str → Option Value) (g : TGs) (d : GsD) : Prop where
  run : ∀ Z C H Hf σ ρ vs xs Q, Sm K mg Z C H Hf σ ρ → RpA K mg Hf xs vs → PostG K mg Z C Hf Q (d xs ρ) → g vs σ H Q
/-- turn by turn the items come -/
def Ylds (K : PySem.W.Frag) (mg : Str → Option Value) (Hf0 : Hp) (items : List D) (J : It) : Prop :=
  ∀ i H Hf, Same Hf0 Hf → Same Hf H → (∀ d, items[i]? = some d → J.go i H ∧ ∀ x H', J.yld i H x H' → ∃ Hf', Same Hf Hf' ∧ Same H H' ∧ Same Hf' H' ∧ (∀ a o, Hf' a = some o → Hf a = none → H a = none ∨ ∃ xs, o = .tup xs) ∧ Rp K mg Hf' d x) ∧
    (items.length ≤ i → J.stop i H)
abbrev RI (K : PySem.W.Frag) (mg : Str → Option Value) : Hp → Hp → Rho → List D → It → Prop := fun _ Hf _ l J => Ylds K mg Hf l J
structure WI (K : PySem.W.Frag) (mg : Str → Option Value) (W : WX) (wi : TI) (d : ID) : Prop where
  run : ∀ Z C H Hf σ ρ R, Sm K mg Z C H Hf σ ρ → Post K mg Z W C σ Hf (RI K mg) R (d ρ) → wi σ H R

/-! ### denotations -/
def sNext : SD := fun ρ => .ok (.nx ρ)
def sSeq (a b : SD) : SD := fun ρ => (a ρ).bind fun f => match f with
  | .nx ρ' => b ρ'
  | o => .ok o
def sIf (c : TD) (a b : SD) : SD := fun ρ => (c ρ).bind fun p => if p.1 = true then a p.2 else b p.2
def sRet (e : ED) : SD := fun ρ => (e ρ).bind fun p => .ok (.rt p.1 p.2)
def sRetO (e : AD) : SD := fun ρ => (e ρ).bind fun p => .ok (.ro p.1 p.2)
def sRetN : SD := fun ρ => .ok (.rt .non ρ)
def sBk : SD := fun ρ => .ok (.bk ρ)
def sCt : SD := fun ρ => .ok (.ct ρ)
def sDrop (e : ED) : SD := fun ρ => (e ρ).bind fun p => .ok (.nx p.2)
def sSet (i : Nat) (e : ED) : SD := fun ρ => (e ρ).bind fun p => .ok (.nx (p.2.set i (some (.fz p.1))))
def sSetO (i : Nat) (e : AD) : SD := fun ρ => (e ρ).bind fun p => .ok (.nx (p.2.set i (some (.ow 1 p.1))))
def sSetD (i : Nat) : SD := fun ρ => .ok (.nx (ρ.set i (some (.od []))))
def sPar (i j : Nat) (a : AD) : SD := fun ρ => (a ρ).bind fun p => match p.1 with
  | [x, y] => .ok (.nx ((p.2.set i (some (.fz x))).set j (some (.fz y))))
  | _ => .bad
def sPar3 (i j l : Nat) (a : AD) : SD := fun ρ => (a ρ).bind fun p => match p.1 with
  | [x, y, z] => .ok (.nx (((p.2.set i (some (.fz x))).set j (some (.fz y))).set l (some (.fz z))))
  | _ => .bad
def sRaise (e : Str) : SD := fun ρ => .er e ρ
def gdName (i : Nat) : GD := fun x ρ => .ok (ρ.set i (some (.fz x)))
def gdNil : GsD := fun xs ρ => match xs with
  | [] => .ok ρ
  | _ => .bad
def gdCons (g : GD) (r : GsD) : GsD := fun xs ρ => match xs with
  | x :: xs => (g x ρ).bind fun ρ' => r xs ρ'
  | [] => .bad
def gdTup (n : Nat) (r : GsD) : GD := fun x ρ => match x with
  | .tup l => if l.length = n then r l ρ else .bad
  | _ => .bad
def sAsg (e : ED) (g : GD) : SD := fun ρ => (e ρ).bind fun p => (g p.1 p.2).bind fun ρ' => .ok (.nx ρ')
def forGo (g : GD) (b : SD) : List D → Rho → Res Fl
  | [], ρ => .ok (.nx ρ)
  | x :: xs, ρ => (g x ρ).bind fun ρ1 => (b ρ1).bind fun f => match f with
    | .nx ρ2 => forGo g b xs ρ2
    | .ct ρ2 => forGo g b xs ρ2
    | .bk ρ2 => .ok (.nx ρ2)
    | o => .ok o
def sFor (it : ID) (g : GD) (b : SD) : SD := fun ρ => (it ρ).bind fun p => forGo g b p.1 p.2
def whileGo (c : TD) (b : SD) : Nat → Rho → Res Fl
  | 0, _ => .bad
  | n + 1, ρ => (c ρ).bind fun p => if p.1 = true then (b p.2).bind fun f => match f with
      | .nx ρ2 => whileGo c b n ρ2
      | .ct ρ2 => whileGo c b n ρ2
      | .bk ρ2 => .ok (.nx ρ2)
      | o => .ok o
    else .ok (.nx p.2)
def sWhile (n : Nat) (c : TD) (b : SD) : SD := whileGo c b n

def wipeR (ρ : Rho) : List Nat → Rho
  | [] => ρ
  | v :: vs => (wipeR ρ vs).set v none
/-- the block's own names as they were -/
def putBack (ρ ρn : Rho) : List Nat → Rho
  | [] => ρn
  | v :: vs => (putBack ρ ρn vs).set v (ρ[v]?.getD none)
def lcGo (g : GD) (tt : TD) (e : ED) (vs : List Nat) : List D → Rho → Res (List D × Rho)
  | [], ρ => .ok ([], ρ)
  | x :: xs, ρ => (g x ρ).bind fun ρ1 => (tt ρ1).bind fun p => if p.1 = true then (e p.2).bind fun q => (lcGo g tt e vs xs (wipeR q.2 vs)).bind fun r => .ok (q.1 :: r.1, r.2)
    else lcGo g tt e vs xs (wipeR p.2 vs)
def noEr {α : Type} : Res α → Res α
  | .er _ _ => .bad
  | o => o
def anyOw (ρ : Rho) (vs : List Nat) : Bool := vs.any fun i => match ρ[i]? with
  | some (some b) => isOw b
  | _ => false
def oLc (it : ID) (g : GD) (tt : TD) (e : ED) (vs : List Nat) : AD := fun ρ => (it ρ).bind fun p =>
  if anyOw p.2 vs = false ∧ p.1.length ≤ 1000000 then (noEr (lcGo g tt e vs p.1 (wipeR p.2 vs))).bind fun q => .ok (q.1, putBack p.2 q.2 vs) else .bad
def tdYes : TD := fun ρ => .ok (true, ρ)

section
variable {K : PySem.W.Frag} {mg : Str → Option Value} {Z : Addr} {W : WX} {C H Hf Hf' : Hp} {σ : Sl} {ρ : Rho}
theorem PostS.up {N : Ends} {m : Res Fl} (h : PostS K mg Z W C Hf N m) (s : Same Hf Hf') : PostS K mg Z W C Hf' N m := by
  cases m with
  | ok f =>
    cases f with
    | nx ρ' => exact fun σ1 H1 Hf1 s1 S => h σ1 H1 Hf1 (s.trans s1) S
    | rt r ρ' => exact fun v σ1 H1 Hf1 s1 S r => h v σ1 H1 Hf1 (s.trans s1) S r
    | ro r ρ' => exact fun v σ1 H1 Hf1 s1 S r => h v σ1 H1 Hf1 (s.trans s1) S r
    | bk ρ' => exact fun σ1 H1 Hf1 s1 S => h σ1 H1 Hf1 (s.trans s1) S
    | ct ρ' => exact fun σ1 H1 Hf1 s1 S => h σ1 H1 Hf1 (s.trans s1) S
  | er e ρ' => exact fun σ1 H1 Hf1 a s1 S r => h σ1 H1 Hf1 a (s.trans s1) S r
  | bad => exact h
/-- an expression's outcome ahead of a statement's -/
theorem PostS.ebind {α β : Type} {R : Hp → Hp → Rho → α → β → Prop} {Q : β → Hp → Prop} {N : Ends} {m : Res (α × Rho)} {f : α × Rho → Res Fl} (h : PostS K mg Z W C Hf N (m.bind f))
    (k : ∀ r ρ' v H' Hf', Same Hf Hf' → Sm K mg Z C H' Hf' σ ρ' → R H' Hf' ρ' r v → PostS K mg Z W C Hf' N (f (r, ρ')) → Q v H') : Post K mg Z W C σ Hf R Q m := by
  cases m with
  | ok p => obtain ⟨r, ρ'⟩ := p; exact fun v H1 Hf1 s1 S q => k r ρ' v H1 Hf1 s1 S q (h.up s1)
  | er e ρ' => exact fun H1 Hf1 a s1 S r => h σ H1 Hf1 a s1 S r
  | bad => exact h
theorem PostS.gbind {Q : Sl → Hp → Prop} {N : Ends} {m : Res Rho} {f : Rho → Res Fl} (h : PostS K mg Z W C Hf N (m.bind f)) (hm : ∀ e ρ', m ≠ .er e ρ')
    (k : ∀ ρ' σ' H' Hf', Same Hf Hf' → Sm K mg Z C H' Hf' σ' ρ' → PostS K mg Z W C Hf' N (f ρ') → Q σ' H') : PostG K mg Z C Hf Q m := by
  cases m with
  | ok ρ' => exact fun σ' H1 Hf1 s1 S => k ρ' σ' H1 Hf1 s1 S (h.up s1)
  | er e ρ' => exact (hm e ρ' rfl).elim
  | bad => exact h
theorem s_next : WS K mg W tNext sNext := ⟨fun Z C H Hf σ ρ N S h => h σ H Hf (Same.refl _) S⟩
theorem s_seq {t u : TS} {a b : SD} (ha : WS K mg W t a) (hb : WS K mg W u b) : WS K mg W (tSeq t u) (sSeq a b) :=
  ⟨fun Z C H Hf σ ρ N S h => by
    refine ha.run Z C H Hf σ ρ { N with nx := u N } S ?_
    unfold sSeq at h
    cases e : a ρ with
    | ok f =>
      rw [e] at h
      cases f with
      | nx ρ' => exact fun σ1 H1 Hf1 s1 S1 => hb.run Z C H1 Hf1 σ1 ρ' N S1 (PostS.up h s1)
      | rt r ρ' => exact h
      | ro r ρ' => exact h
      | bk ρ' => exact h
      | ct ρ' => exact h
    | er e1 ρ' => rw [e] at h; exact h
    | bad => rw [e] at h; exact h.elim⟩
theorem s_if {c : TT} {t u : TS} {k : TD} {a b : SD} (hc : WT K mg W c k) (ha : WS K mg W t a) (hb : WS K mg W u b) : WS K mg W (tIfS c t u) (sIf k a b) :=
  ⟨fun Z C H Hf σ ρ N S h => hc.run Z C H Hf σ ρ _ S (PostS.ebind h fun x ρ1 v H1 Hf1 s1 S1 r h1 => by
    cases r
    cases x with
    | true => exact iteT (ha.run Z C H1 Hf1 σ ρ1 N S1 h1)
    | false => exact iteF (hb.run Z C H1 Hf1 σ ρ1 N S1 h1))⟩
theorem s_ret {t : TE} {d : ED} (h : WE K mg W t d) : WS K mg W (tRet t) (sRet d) :=
  ⟨fun Z C H Hf σ ρ N S hp => h.run Z C H Hf σ ρ _ S (PostS.ebind hp fun x ρ1 v H1 Hf1 s1 S1 r h1 => h1 v σ H1 Hf1 (Same.refl _) S1 r)⟩
theorem s_retO {t : TE} {d : AD} (h : WO K mg W t d) : WS K mg W (tRet t) (sRetO d) :=
  ⟨fun Z C H Hf σ ρ N S hp => h.run Z C H Hf σ ρ _ S (PostS.ebind hp fun x ρ1 v H1 Hf1 s1 S1 r h1 => h1 v σ H1 Hf1 (Same.refl _) S1 r)⟩
theorem s_retN : WS K mg W tRetN sRetN := ⟨fun Z C H Hf σ ρ N S h => h .non σ H Hf (Same.refl _) S .non⟩
theorem s_bk : WS K mg W tBreak sBk := ⟨fun Z C H Hf σ ρ N S h => h σ H Hf (Same.refl _) S⟩
theorem s_ct : WS K mg W tCont sCt := ⟨fun Z C H Hf σ ρ N S h => h σ H Hf (Same.refl _) S⟩
theorem s_drop {t : TE} {d : ED} (h : WE K mg W t d) : WS K mg W (tDrop t) (sDrop d) :=
  ⟨fun Z C H Hf σ ρ N S hp => h.run Z C H Hf σ ρ _ S (PostS.ebind hp fun x ρ1 v H1 Hf1 s1 S1 r h1 => h1 σ H1 Hf1 (Same.refl _) S1)⟩
theorem s_set {i : Nat} {t : TE} {d : ED} (h : WE K mg W t d) : WS K mg W (tAsg t (gName i)) (sSet i d) :=
  ⟨fun Z C H Hf σ ρ N S hp => h.run Z C H Hf σ ρ _ S (PostS.ebind hp fun x ρ1 v H1 Hf1 s1 S1 r h1 => h1 _ H1 Hf1 (Same.refl _) (S1.set i r))⟩
theorem s_setO {i : Nat} {t : TE} {d : AD} (h : WO K mg W t d) : WS K mg W (tAsg t (gName i)) (sSetO i d) :=
  ⟨fun Z C H Hf σ ρ N S hp => h.run Z C H Hf σ ρ _ S (PostS.ebind hp fun x ρ1 v H1 Hf1 s1 S1 r h1 => by
    obtain ⟨a, xs, rfl, e, n, nc, no, rr⟩ := r
    refine h1 _ H1 Hf1 (Same.refl _) (S1.setB i ⟨a, xs, rfl, e, n, nc, rr, fun z => by cases z⟩ fun _ j c b eb q o z => ?_)
    have : b = a := by cases eb; rfl
    subst this
    exact no j c q o z)⟩
theorem s_setD {i : Nat} : WS K mg W (tAsg tDNewT (gName i)) (sSetD i) :=
  ⟨fun Z C H Hf σ ρ N S h => fun p np => by
    refine h _ _ _ (Same.refl _) ((S.laid0 (.dT []) np).setB i ⟨p, [], rfl, upd_same, S.free np, S.freeC np, .nil⟩ fun _ j c b eb q o z => ?_)
    have : b = p := by cases eb; rfl
    subst this
    exact NoOw.of S np j c q o z⟩
theorem s_par {i j : Nat} {t : TA} {d : AD} (h : WA K mg W t d) : WS K mg W (tPar i j t) (sPar i j d) :=
  ⟨fun Z C H Hf σ ρ N S hp => h.run Z C H Hf σ ρ _ S (PostS.ebind hp fun x ρ1 v H1 Hf1 s1 S1 r h1 => by
    dsimp only at h1
    split at h1
    · rename_i a b
      cases r with
      | cons r1 r =>
        cases r with
        | cons r2 r => cases r; exact ⟨_, _, rfl, h1 _ H1 Hf1 (Same.refl _) ((S1.set i r1).set j r2)⟩
    · exact h1.elim)⟩
theorem s_par3 {i j l : Nat} {t : TA} {d : AD} (h : WA K mg W t d) : WS K mg W (tPar3 i j l t) (sPar3 i j l d) :=
  ⟨fun Z C H Hf σ ρ N S hp => h.run Z C H Hf σ ρ _ S (PostS.ebind hp fun x ρ1 v H1 Hf1 s1 S1 r h1 => by
    dsimp only at h1
    split at h1
    · rename_i a b c
      cases r with
      | cons r1 r =>
        cases r with
        | cons r2 r =>
          cases r with
          | cons r3 r => cases r; exact ⟨_, _, _, rfl, h1 _ H1 Hf1 (Same.refl _) (((S1.set i r1).set j r2).set l r3)⟩
    · exact h1.elim)⟩
theorem s_raise {e : Str} {a : Addr} (hm : mg e = some (.ref a)) : WS K mg W (fun _ σ H => W (.ref a) none σ H) (sRaise e) := ⟨fun Z C H Hf σ ρ N S h => h σ H Hf a (Same.refl _) S hm⟩
/-! targets -/
theorem g_name {i : Nat} : WG K mg (gName i) (gdName i) := ⟨fun Z C H Hf σ ρ v x Q S r h => h _ H Hf (Same.refl _) (S.set i r)⟩
theorem g_nil : WGs K mg gNil gdNil := ⟨fun Z C H Hf σ ρ vs xs Q S r h => by
  cases r with
  | nil => exact ⟨rfl, h σ H Hf (Same.refl _) S⟩
  | cons => exact h.elim⟩
theorem g_cons {g : TG} {r : TGs} {d : GD} {e : GsD} (hg : WG K mg g d) (hr : WGs K mg r e) : WGs K mg (gCons g r) (gdCons d e) := ⟨fun Z C H Hf σ ρ vs xs Q S rx h => by
  cases rx with
  | nil => exact h.elim
  | @cons x xs v vs r1 r2 =>
    refine ⟨v, vs, rfl, hg.run Z C H Hf σ ρ v x _ S r1 ?_⟩
    have h' : PostG K mg Z C Hf Q ((d x ρ).bind fun ρ' => e xs ρ') := h
    cases q : d x ρ with
    | ok ρ' =>
      rw [q] at h'
      refine fun σ1 H1 Hf1 s1 S1 => hr.run Z C H1 Hf1 σ1 ρ' vs xs Q S1 (r2.up s1) ?_
      have h2 : PostG K mg Z C Hf Q (e xs ρ') := h'
      cases q2 : e xs ρ' with
      | ok ρ2 => rw [q2] at h2; exact fun σ2 H2 Hf2 s2 S2 => h2 σ2 H2 Hf2 (s1.trans s2) S2
      | er => rw [q2] at h2; exact h2
      | bad => rw [q2] at h2; exact h2
    | er => rw [q] at h'; exact h'
    | bad => rw [q] at h'; exact h'⟩
theorem g_tup {n : Nat} {r : TGs} {e : GsD} (hr : WGs K mg r e) : WG K mg (gTup K n r) (gdTup n e) := ⟨fun Z C H Hf σ ρ v x Q S rx h => by
  cases x with
  | tup l =>
    cases rx with
    | @tup a xs _ sq ra =>
      have h' : PostG K mg Z C Hf Q (if l.length = n then e l ρ else .bad) := h
      split at h'
      · rename_i hl
        exact ⟨a, xs, rfl, tq S.ff sq, ra.length ▸ hl, hr.run Z C H Hf σ ρ xs l Q S ra h'⟩
      · exact h'.elim
  | _ => exact h.elim⟩
theorem PostG.ner {Q : Sl → Hp → Prop} {m : Res Rho} (h : PostG K mg Z C Hf Q m) : ∀ e ρ', m ≠ .er e ρ' := fun e ρ' z => by rw [z] at h; exact h
/-- a target that no own error leaves -/
def Calm (g : GD) : Prop := ∀ x ρ e ρ', g x ρ ≠ .er e ρ'
theorem calm_name (i : Nat) : Calm (gdName i) := fun x ρ e ρ' z => by cases z
def CalmS (g : GsD) : Prop := ∀ x ρ e ρ', g x ρ ≠ .er e ρ'
theorem calm_nil : CalmS gdNil := fun x ρ e ρ' z => by
  unfold gdNil at z
  split at z <;> cases z
theorem calm_cons {g : GD} {r : GsD} (a : Calm g) (b : CalmS r) : CalmS (gdCons g r) := fun x ρ e ρ' z => by
  cases x with
  | nil => cases z
  | cons x xs =>
    have z' : (g x ρ).bind (fun ρ' => r xs ρ') = .er e ρ' := z
    cases q : g x ρ with
    | ok ρ1 => rw [q] at z'; exact b xs ρ1 e ρ' z'
    | er e1 ρ1 => exact a x ρ e1 ρ1 q
    | bad => rw [q] at z'; cases z'
theorem calm_tup {n : Nat} {r : GsD} (b : CalmS r) : Calm (gdTup n r) := fun x ρ e ρ' z => by
  unfold gdTup at z
  split at z
  · split at z
    · exact b _ _ _ _ z
    · cases z
  · cases z
theorem s_asg {t : TE} {d : ED} {g : TG} {gd : GD} (h : WE K mg W t d) (hg : WG K mg g gd) (cg : Calm gd) : WS K mg W (tAsg t g) (sAsg d gd) :=
  ⟨fun Z C H Hf σ ρ N S hp => h.run Z C H Hf σ ρ _ S (PostS.ebind hp fun x ρ1 v H1 Hf1 s1 S1 r h1 =>
    hg.run Z C H1 Hf1 σ ρ1 v x _ S1 r (PostS.gbind h1 (cg x ρ1) fun ρ2 σ2 H2 Hf2 s2 S2 h2 => h2 σ2 H2 Hf2 (Same.refl _) S2))⟩
/-! loops -/
theorem s_for {wi : TI} {g : TG} {tb : TS} {it : ID} {gd : GD} {b : SD} (hi : WI K mg W wi it) (hg : WG K mg g gd) (cg : Calm gd) (hb : WS K mg W tb b) : WS K mg W (tFor wi g tb) (sFor it gd b) :=
  ⟨fun Z C H Hf σ ρ N S hp => hi.run Z C H Hf σ ρ _ S (PostS.ebind hp fun items ρ1 J H1 Hf1 s1 S1 yl h1 => by
    refine ⟨fun i m σ' H' => i + m = items.length ∧ ∃ Hf' ρ', Same Hf1 Hf' ∧ Sm K mg Z C H' Hf' σ' ρ' ∧ PostS K mg Z W C Hf' N (forGo gd b (items.drop i) ρ'),
      ⟨items.length, Nat.zero_add _, Hf1, ρ1, Same.refl _, S1, h1⟩, fun i m σ' H' hW => ?_⟩
    obtain ⟨hm, Hf', ρ', s2, S2, h2⟩ := hW
    obtain ⟨yg, ys⟩ := yl i H' Hf' s2 S2.ff
    cases e : items[i]? with
    | none =>
      have hl : items.length ≤ i := List.getElem?_eq_none_iff.mp e
      refine .inl ⟨ys hl, ?_⟩
      rw [List.drop_eq_nil_of_le hl] at h2
      exact h2 σ' H' Hf' (Same.refl _) S2
    | some d =>
      obtain ⟨hl, ed⟩ := List.getElem?_eq_some_iff.mp e
      obtain ⟨go, yld⟩ := yg d e
      rw [List.drop_eq_getElem_cons hl, ed] at h2
      refine .inr ⟨go, fun σ3 H3 => (i + 1) + (m - 1) = items.length ∧ ∃ Hf' ρ', Same Hf1 Hf' ∧ Sm K mg Z C H3 Hf' σ3 ρ' ∧ PostS K mg Z W C Hf' N (forGo gd b (items.drop (i + 1)) ρ'), fun σ3 H3 hN => ⟨m - 1, by omega, hN⟩, fun x H3 hy => ?_⟩
      obtain ⟨Hf3, s3, sh, ff, nw, rx⟩ := yld x H3 hy
      have S3 := S2.grow sh s3 ff nw
      refine hg.run Z C H3 Hf3 σ' ρ' x d _ S3 rx (PostS.gbind (PostS.up h2 s3) (cg d ρ') fun ρ4 σ4 H4 Hf4 s4 S4 h4 => hb.run Z C H4 Hf4 σ4 ρ4 _ S4 ?_)
      have fin : ∀ ρ5, PostS K mg Z W C Hf4 N (forGo gd b (items.drop (i + 1)) ρ5) → ∀ σ' H' Hf', Same Hf4 Hf' → Sm K mg Z C H' Hf' σ' ρ5 →
          ((i + 1) + (m - 1) = items.length ∧ ∃ Hf' ρ', Same Hf1 Hf' ∧ Sm K mg Z C H' Hf' σ' ρ' ∧ PostS K mg Z W C Hf' N (forGo gd b (items.drop (i + 1)) ρ')) :=
        fun ρ5 h5 σ5 H5 Hf5 s5 S5 => ⟨by omega, Hf5, ρ5, ((s2.trans s3).trans s4).trans s5, S5, h5.up s5⟩
      cases q : b ρ4 with
      | ok f =>
        rw [q] at h4
        cases f with
        | nx ρ5 => exact fin ρ5 h4
        | ct ρ5 => exact fin ρ5 h4
        | bk ρ5 => exact h4
        | rt r ρ5 => exact h4
        | ro r ρ5 => exact h4
      | er e2 ρ5 => rw [q] at h4; exact h4
      | bad => rw [q] at h4; exact h4.elim)⟩
theorem s_while {n : Nat} {c : TT} {tb : TS} {k : TD} {b : SD} (hc : WT K mg W c k) (hb : WS K mg W tb b) : WS K mg W (tWhile c tb) (sWhile n k b) :=
  ⟨fun Z C H Hf σ ρ N S hp => by
    refine ⟨fun m σ' H' => ∃ Hf' ρ', Same Hf Hf' ∧ Sm K mg Z C H' Hf' σ' ρ' ∧ PostS K mg Z W C Hf' N (whileGo k b m ρ'), ⟨n, Hf, ρ, Same.refl _, S, hp⟩, fun m σ' H' hW => ?_⟩
    obtain ⟨Hf', ρ', s2, S2, h2⟩ := hW
    cases m with
    | zero => exact h2.elim
    | succ m =>
      refine hc.run Z C H' Hf' σ' ρ' _ S2 (PostS.ebind h2 fun x ρ3 v H3 Hf3 s3 S3 r h3 => ?_)
      cases r
      cases x with
      | false => exact iteF (h3 σ' H3 Hf3 (Same.refl _) S3)
      | true =>
        refine iteT ⟨fun σ4 H4 => ∃ Hf' ρ', Same Hf Hf' ∧ Sm K mg Z C H4 Hf' σ4 ρ' ∧ PostS K mg Z W C Hf' N (whileGo k b m ρ'), fun σ4 H4 hN => ⟨m, Nat.lt_succ_self m, hN⟩, hb.run Z C H3 Hf3 σ' ρ3 _ S3 ?_⟩
        have h4 : PostS K mg Z W C Hf3 N ((b ρ3).bind fun f => match f with
          | .nx ρ2 => whileGo k b m ρ2
          | .ct ρ2 => whileGo k b m ρ2
          | .bk ρ2 => .ok (.nx ρ2)
          | o => .ok o) := h3
        have fin : ∀ ρ5, PostS K mg Z W C Hf3 N (whileGo k b m ρ5) → ∀ σ' H' Hf', Same Hf3 Hf' → Sm K mg Z C H' Hf' σ' ρ5 →
            (∃ Hf' ρ', Same Hf Hf' ∧ Sm K mg Z C H' Hf' σ' ρ' ∧ PostS K mg Z W C Hf' N (whileGo k b m ρ')) :=
          fun ρ5 h5 σ5 H5 Hf5 s5 S5 => ⟨Hf5, ρ5, (s2.trans s3).trans s5, S5, h5.up s5⟩
        cases q : b ρ3 with
        | ok f =>
          rw [q] at h4
          cases f with
          | nx ρ5 => exact fin ρ5 h4
          | ct ρ5 => exact fin ρ5 h4
          | bk ρ5 => exact h4
          | rt r ρ5 => exact h4
          | ro r ρ5 => exact h4
        | er e2 ρ5 => rw [q] at h4; exact h4
        | bad => rw [q] at h4; exact h4.elim⟩
end
end DL

set_option Elab.async false
set_option linter.all false
set_option maxRecDepth 100000
set_option maxHeartbeats 2000000
/-! DL4: comprehensions, promises of defs, calls -/
namespace DL
open PySem PySem.Spec PyProof.Rows L2

abbrev W0 : WX := fun _ _ _ _ => False
/-! ### slots forgotten and put back -/
theorem wipe_in {σ : Sl} {i : Nat} : ∀ {vs : List Nat}, i ∈ vs → (wipe σ vs)[i]? = if i < σ.length then some none else none
  | v :: vs, h => by
    show ((wipe σ vs).set v none)[i]? = _
    by_cases e : v = i
    · subst e
      by_cases hl : v < σ.length
      · rw [List.getElem?_set_self (by rw [wipe_length]; exact hl), if_pos hl]
      · rw [if_neg hl, List.getElem?_eq_none (by rw [List.length_set, wipe_length]; omega)]
    · rw [List.getElem?_set_ne e]
      exact wipe_in ((List.mem_cons.mp h).resolve_left (Ne.symm e))
theorem wipe_eq {σ σ' : Sl} {vs : List Nat} (hl : σ.length = σ'.length) (h : ∀ i, i ∉ vs → σ[i]? = σ'[i]?) : wipe σ vs = wipe σ' vs := by
  apply List.ext_getElem?
  intro i
  by_cases e : i ∈ vs
  · rw [wipe_in e, wipe_in e, hl]
  · rw [wipe_out e, wipe_out e, h i e]
theorem wipe_set {σ : Sl} {vs : List Nat} {i : Nat} {x : Option V} (h : i ∈ vs) : wipe (σ.set i x) vs = wipe σ vs :=
  wipe_eq (by simp) fun j hj => by
    have ne : i ≠ j := fun e => hj (by rw [← e]; exact h)
    exact List.getElem?_set_ne ne
theorem wipe_wipe {σ : Sl} {vs : List Nat} : wipe (wipe σ vs) vs = wipe σ vs := wipe_eq (wipe_length _ _) fun i hi => wipe_out hi
theorem wipeR_length (ρ : Rho) : ∀ vs : List Nat, (wipeR ρ vs).length = ρ.length
  | [] => rfl
  | v :: vs => by show ((wipeR ρ vs).set v none).length = _; rw [List.length_set, wipeR_length ρ vs]
theorem wipeR_some {ρ : Rho} {i : Nat} {b : B} : ∀ {vs : List Nat}, (wipeR ρ vs)[i]? = some (some b) → ρ[i]? = some (some b) ∧ i ∉ vs
  | [], h => ⟨h, by simp⟩
  | v :: vs, h => by
    have h' : ((wipeR ρ vs).set v none)[i]? = some (some b) := h
    by_cases e : v = i
    · subst e
      by_cases hl : v < (wipeR ρ vs).length
      · rw [List.getElem?_set_self hl] at h'; cases h'
      · rw [List.getElem?_eq_none (by rw [List.length_set]; omega)] at h'; cases h'
    · rw [List.getElem?_set_ne e] at h'
      obtain ⟨a, b⟩ := wipeR_some h'
      exact ⟨a, fun z => (List.mem_cons.mp z).elim (fun q => e q.symm) b⟩
theorem putBack_length (ρ ρn : Rho) : ∀ vs : List Nat, (putBack ρ ρn vs).length = ρn.length
  | [] => rfl
  | v :: vs => by show ((putBack ρ ρn vs).set v _).length = _; rw [List.length_set, putBack_length ρ ρn vs]
theorem putBack_some {ρ ρn : Rho} {i : Nat} {b : B} : ∀ {vs : List Nat}, (putBack ρ ρn vs)[i]? = some (some b) → (i ∈ vs ∧ ρ[i]? = some (some b)) ∨ (i ∉ vs ∧ ρn[i]? = some (some b))
  | [], h => .inr ⟨by simp, h⟩
  | v :: vs, h => by
    have h' : ((putBack ρ ρn vs).set v (ρ[v]?.getD none))[i]? = some (some b) := h
    by_cases e : v = i
    · subst e
      by_cases hl : v < (putBack ρ ρn vs).length
      · rw [List.getElem?_set_self hl] at h'
        refine .inl ⟨List.mem_cons_self, ?_⟩
        cases q : ρ[v]? with
        | none => rw [q] at h'; cases h'
        | some o => rw [q] at h'; exact h'
      · rw [List.getElem?_eq_none (by rw [List.length_set]; omega)] at h'; cases h'
    · rw [List.getElem?_set_ne e] at h'
      rcases putBack_some h' with ⟨a, b⟩ | ⟨a, b⟩
      · exact .inl ⟨List.mem_cons_of_mem _ a, b⟩
      · exact .inr ⟨fun z => (List.mem_cons.mp z).elim (fun q => e q.symm) a, b⟩
section
variable {K : PySem.W.Frag} {mg : Str → Option Value} {Z : Addr} {W : WX} {C H Hf H' Hf' : Hp} {σ : Sl} {ρ ρn : Rho}
theorem Sm.wipe (S : Sm K mg Z C H Hf σ ρ) (vs : List Nat) : Sm K mg Z C H Hf (L2.wipe σ vs) (wipeR ρ vs) where
  ff := S.ff
  cf := S.cf
  dj := S.dj
  ln := by rw [wipeR_length, wipe_length]; exact S.ln
  sl := fun i b e => by
    obtain ⟨e1, ni⟩ := wipeR_some e
    obtain ⟨v, e2, r⟩ := S.sl i b e1
    exact ⟨v, (wipe_out ni).trans e2, r⟩
  cm := S.cm
  ds := fun i j b c a e1 e2 o1 o2 s1 s2 => S.ds i j b c a (wipeR_some e1).1 (wipeR_some e2).1 o1 o2 (wipe_some s1).1 (wipe_some s2).1
theorem anyOw_no {vs : List Nat} (h : anyOw ρ vs = false) {i : Nat} (hi : i ∈ vs) {b : B} (e : ρ[i]? = some (some b)) : isOw b = false := by
  have := List.any_eq_false.mp h i hi
  rw [e] at this
  simpa using this
theorem Sm.back {vs : List Nat} (S : Sm K mg Z C H Hf σ ρ) (Sn : Sm K mg Z C H' Hf' (L2.wipe σ vs) ρn) (s : Same Hf Hf') (no : anyOw ρ vs = false) : Sm K mg Z C H' Hf' σ (putBack ρ ρn vs) where
  ff := Sn.ff
  cf := Sn.cf
  dj := Sn.dj
  ln := by rw [putBack_length]; exact Sn.ln.trans (wipe_length _ _)
  sl := fun i b e => by
    rcases putBack_some e with ⟨hi, e1⟩ | ⟨hi, e1⟩
    · obtain ⟨v, e2, r⟩ := S.sl i b e1
      have nb := anyOw_no no hi e1
      cases b with
      | fz d => exact ⟨v, e2, Rp.up r s⟩
      | ow t l => cases nb
      | od l => cases nb
    · obtain ⟨v, e2, r⟩ := Sn.sl i b e1
      exact ⟨v, (wipe_some e2).1, r⟩
  cm := S.cm
  ds := fun i j b c a e1 e2 o1 o2 s1 s2 => by
    have f : ∀ {i : Nat} {b : B}, (putBack ρ ρn vs)[i]? = some (some b) → isOw b = true → i ∉ vs ∧ ρn[i]? = some (some b) := fun {i b} e o => by
      rcases putBack_some e with ⟨hi, e1⟩ | q
      · rw [anyOw_no no hi e1] at o; cases o
      · exact q
    obtain ⟨n1, f1⟩ := f e1 o1
    obtain ⟨n2, f2⟩ := f e2 o2
    exact Sn.ds i j b c a f1 f2 o1 o2 ((wipe_out n1).trans s1) ((wipe_out n2).trans s2)
/-! ### a thing that is nobody's business -/
theorem Sm.priv (S : Sm K mg Z C H Hf σ ρ) {p : Addr} (o : HO) (n : H p = none) (ht : ∀ xs, o ≠ .tup xs := by intro _ h; cases h) : Sm K mg Z (upd C p o) (upd H p o) Hf σ ρ where
  ff := S.ff.trans (same_upd n)
  cf := fun a u e => by
    by_cases h : a = p
    · subst h; rw [upd_same] at e ⊢; exact e
    · rw [upd_ne h] at e ⊢; exact S.cf _ _ e
  dj := fun a u e => by
    by_cases h : a = p
    · subst h; exact S.free n
    · rw [upd_ne h] at e; exact S.dj a u e
  ln := S.ln
  sl := fun i b e => by
    obtain ⟨v, e1, r⟩ := S.sl i b e
    refine ⟨v, e1, ?_⟩
    have ne : ∀ {a q}, H a = some q → a ≠ p := fun {a q} h => ne_of_none h n
    cases b with
    | fz d => exact r
    | ow t l => obtain ⟨a, xs, e2, h1, h2, h3, h4, h5⟩ := r; exact ⟨a, xs, e2, same_upd n _ _ h1, h2, (upd_ne (ne h1)).trans h3, h4, h5⟩
    | od l => obtain ⟨a, xs, e2, h1, h2, h3, h4⟩ := r; exact ⟨a, xs, e2, same_upd n _ _ h1, h2, (upd_ne (ne h1)).trans h3, h4⟩
  ds := S.ds
  cm := fun a xs e => by
    by_cases h : a = p
    · subst h; rw [upd_same] at e; exact ht xs (Option.some.inj e)
    · rw [upd_ne h] at e; exact S.cm _ _ e
theorem Sm.privSet {p : Addr} {o : HO} (S : Sm K mg Z (upd C p o) H Hf σ ρ) (o' : HO) (ht : ∀ xs, o' ≠ .tup xs := by intro _ h; cases h) : Sm K mg Z (upd C p o') (upd H p o') Hf σ ρ where
  ff := fun a u e => by
    have ne : a ≠ p := fun z => by
      subst z
      rw [S.dj a o upd_same] at e; cases e
    rw [upd_ne ne]; exact S.ff _ _ e
  cf := fun a u e => by
    by_cases h : a = p
    · subst h; rw [upd_same] at e ⊢; exact e
    · rw [upd_ne h] at e ⊢; exact S.cf a u (by rw [upd_ne h]; exact e)
  dj := fun a u e => by
    by_cases h : a = p
    · subst h; exact S.dj a o upd_same
    · rw [upd_ne h] at e; exact S.dj a u (by rw [upd_ne h]; exact e)
  ln := S.ln
  sl := fun i b e => by
    obtain ⟨v, e1, r⟩ := S.sl i b e
    refine ⟨v, e1, ?_⟩
    have ne : ∀ {a : Addr}, upd C p o a = none → a ≠ p := fun {a} h z => by subst z; rw [upd_same] at h; cases h
    cases b with
    | fz d => exact r
    | ow t l => obtain ⟨a, xs, e2, h1, h2, h3, h4, h5⟩ := r; exact ⟨a, xs, e2, (upd_ne (ne h3)).trans h1, h2, (upd_ne (ne h3)).trans ((upd_ne (ne h3)).symm.trans h3), h4, h5⟩
    | od l => obtain ⟨a, xs, e2, h1, h2, h3, h4⟩ := r; exact ⟨a, xs, e2, (upd_ne (ne h3)).trans h1, h2, (upd_ne (ne h3)).trans ((upd_ne (ne h3)).symm.trans h3), h4⟩
  ds := S.ds
  cm := fun a xs e => by
    by_cases h : a = p
    · subst h; rw [upd_same] at e; exact ht xs (Option.some.inj e)
    · rw [upd_ne h] at e; exact S.cm a xs (by rw [upd_ne h]; exact e)
theorem Sm.pub {p : Addr} {o : HO} (S : Sm K mg Z (upd C p o) H Hf σ ρ) (n : C p = none) : Sm K mg Z C H Hf σ ρ ∧ NoOw σ ρ p := by
  have sub : Same C (upd C p o) := same_upd n
  refine ⟨⟨S.ff, sub.trans S.cf, fun a u e => S.dj a u (sub _ _ e), S.ln, fun i b e => ?_, S.ds, fun a xs e => S.cm a xs (sub _ _ e)⟩, fun i b e ob z => ?_⟩
  · obtain ⟨v, e1, r⟩ := S.sl i b e
    refine ⟨v, e1, ?_⟩
    have nc : ∀ {a : Addr}, upd C p o a = none → C a = none := fun {a} h => by
      cases q : C a with
      | none => rfl
      | some u => rw [sub _ _ q] at h; cases h
    cases b with
    | fz d => exact r
    | ow t l => obtain ⟨a, xs, e2, h1, h2, h3, h4, h5⟩ := r; exact ⟨a, xs, e2, h1, h2, nc h3, h4, h5⟩
    | od l => obtain ⟨a, xs, e2, h1, h2, h3, h4⟩ := r; exact ⟨a, xs, e2, h1, h2, nc h3, h4⟩
  · obtain ⟨v, e1, r⟩ := S.sl i b e
    obtain ⟨a, rfl, _, h3, _⟩ := r.addr ob
    rw [e1] at z
    have : a = p := by cases z; rfl
    rw [this, upd_same] at h3; cases h3
end

/-! ### targets within a comprehension -/
def PostGv (K : PySem.W.Frag) (mg : Str → Option Value) (Z : Addr) (C Hf : Hp) (vs : List Nat) (σ : Sl) (Q : Sl → Hp → Prop) : Res Rho → Prop
  | .ok ρ' => ∀ σ' H' Hf', Same Hf Hf' → Sm K mg Z C H' Hf' σ' ρ' → wipe σ' vs = wipe σ vs → Q σ' H'
  | _ => False
structure WV (K : PySem.W.Frag) (mg : Str → Option Value) (vs : List Nat) (g : TG) (d : GD) : Prop where
  run : ∀ Z C H Hf σ ρ v x Q, Sm K mg Z C H Hf σ ρ → Rp K mg Hf x v → PostGv K mg Z C Hf vs σ Q (d x ρ) → g v σ H Q
structure WVs (K : PySem.W.Frag) (mg : Str → Option Value) (vs : List Nat) (g : TGs) (d : GsD) : Prop where
  run : ∀ Z C H Hf σ ρ ws xs Q, Sm K mg Z C H Hf σ ρ → RpA K mg Hf xs ws → PostGv K mg Z C Hf vs σ Q (d xs ρ) → g ws σ H Q
section
variable {K : PySem.W.Frag} {mg : Str → Option Value} {Z : Addr} {W : WX} {C H Hf H' Hf' : Hp} {σ : Sl} {ρ : Rho} {vs : List Nat}
theorem v_name {i : Nat} (hi : i ∈ vs) : WV K mg vs (gName i) (gdName i) := ⟨fun Z C H Hf σ ρ v x Q S r h => h _ H Hf (Same.refl _) (S.set i r) (wipe_set hi)⟩
theorem v_nil : WVs K mg vs gNil gdNil := ⟨fun Z C H Hf σ ρ ws xs Q S r h => by
  cases r with
  | nil => exact ⟨rfl, h σ H Hf (Same.refl _) S rfl⟩
  | cons => exact h.elim⟩
theorem v_cons {g : TG} {r : TGs} {d : GD} {e : GsD} (hg : WV K mg vs g d) (hr : WVs K mg vs r e) : WVs K mg vs (gCons g r) (gdCons d e) := ⟨fun Z C H Hf σ ρ ws xs Q S rx h => by
  cases rx with
  | nil => exact h.elim
  | @cons x xs v ws r1 r2 =>
    refine ⟨v, ws, rfl, hg.run Z C H Hf σ ρ v x _ S r1 ?_⟩
    have h' : PostGv K mg Z C Hf vs σ Q ((d x ρ).bind fun ρ' => e xs ρ') := h
    cases q : d x ρ with
    | ok ρ' =>
      rw [q] at h'
      refine fun σ1 H1 Hf1 s1 S1 w1 => hr.run Z C H1 Hf1 σ1 ρ' ws xs Q S1 (r2.up s1) ?_
      have h2 : PostGv K mg Z C Hf vs σ Q (e xs ρ') := h'
      cases q2 : e xs ρ' with
      | ok ρ2 => rw [q2] at h2; exact fun σ2 H2 Hf2 s2 S2 w2 => h2 σ2 H2 Hf2 (s1.trans s2) S2 (w2.trans w1)
      | er => rw [q2] at h2; exact h2
      | bad => rw [q2] at h2; exact h2
    | er => rw [q] at h'; exact h'
    | bad => rw [q] at h'; exact h'⟩
theorem v_tup {n : Nat} {r : TGs} {e : GsD} (hr : WVs K mg vs r e) : WV K mg vs (gTup K n r) (gdTup n e) := ⟨fun Z C H Hf σ ρ v x Q S rx h => by
  cases x with
  | tup l =>
    cases rx with
    | @tup a xs _ sq ra =>
      have h' : PostGv K mg Z C Hf vs σ Q (if l.length = n then e l ρ else .bad) := h
      split at h'
      · rename_i hl
        exact ⟨a, xs, rfl, tq S.ff sq, ra.length ▸ hl, hr.run Z C H Hf σ ρ xs l Q S ra h'⟩
      · exact h'.elim
  | _ => exact h.elim⟩
/-! ### [e for x in .. if ..] -/
def PostL (K : PySem.W.Frag) (mg : Str → Option Value) (Z : Addr) (C Hf : Hp) (p : Addr) (σ : Sl) (acc : List D) (Q : Hp → Prop) : Res (List D × Rho) → Prop
  | .ok (ys, ρn) => ∀ av H' Hf', Same Hf Hf' → Sm K mg Z (upd C p (.lst av)) H' Hf' σ ρn → RpA K mg Hf' (acc ++ ys) av → Q H'
  | _ => False
theorem PostL.up {p : Addr} {acc : List D} {Q : Hp → Prop} {m : Res (List D × Rho)} (h : PostL K mg Z C Hf p σ acc Q m) (s : Same Hf Hf') : PostL K mg Z C Hf' p σ acc Q m := by
  cases m with
  | ok q => obtain ⟨ys, ρn⟩ := q; exact fun av H1 Hf1 s1 S r => h av H1 Hf1 (s.trans s1) S r
  | er => exact h
  | bad => exact h
theorem w_lcP {Pk : Hp → Hp → Sl → Rho → Prop} {wi : TI} {g : TG} {tt : TT} {te : TE} {it : ID} {gd : GD} {td : TD} {ed : ED} (hi : ∀ Z C H Hf σ ρ R, Sm K mg Z C H Hf σ ρ → Pk H Hf σ ρ → Post K mg Z W C σ Hf (RI K mg) R (it ρ) → wi σ H R) (hg : WV K mg vs g gd) (ht : WT K mg W0 tt td) (he : WE K mg W0 te ed)
    (Z : Addr) (C H Hf : Hp) (σ : Sl) (ρ : Rho) (Q : V → Hp → Prop) (S : Sm K mg Z C H Hf σ ρ) (pk : Pk H Hf σ ρ) (hp : Post K mg Z W C σ Hf (RO K mg C σ) Q (oLc it gd td ed vs ρ)) : tLc wi g tt te vs σ H Q := hi Z C H Hf σ ρ _ S pk (Post.bind hp fun items ρ1 J H1 Hf1 s1 S1 yl h1 => by
  dsimp only at h1
  split at h1
  case isFalse => exact h1.elim
  rename_i hc
  obtain ⟨no, hlen⟩ := hc
  intro p np
  have nC : C p = none := S1.freeC np
  have start : PostL K mg Z C Hf1 p (L2.wipe σ vs) [] (fun H' => Q (.ref p) H') (lcGo gd td ed vs items (wipeR ρ1 vs)) := by
    cases q : lcGo gd td ed vs items (wipeR ρ1 vs) with
    | ok r =>
      obtain ⟨ys, ρn⟩ := r
      rw [q] at h1
      intro av H' Hf' s' S' r
      obtain ⟨Sp, nO⟩ := S'.pub nC
      have Sb := S1.back Sp s' no
      refine h1 (.ref p) H' Hf' s' Sb ⟨p, av, rfl, S'.cf _ _ upd_same, S'.dj _ _ upd_same, nC, fun i b e o z => ?_, by simpa using r⟩
      rcases putBack_some e with ⟨hi, e1⟩ | ⟨hi, e1⟩
      · rw [anyOw_no no hi e1] at o; cases o
      · exact nO i b e1 o ((wipe_out hi).trans z)
    | er e r => rw [q] at h1; exact h1
    | bad => rw [q] at h1; exact h1
  refine ⟨fun i m H' => i + m = items.length ∧ ∃ Hf' ρ' acc av, Same Hf1 Hf' ∧ Sm K mg Z (upd C p (.lst av)) H' Hf' (L2.wipe σ vs) ρ' ∧ RpA K mg Hf' acc av ∧ acc.length ≤ i ∧
      PostL K mg Z C Hf' p (L2.wipe σ vs) acc (fun H' => Q (.ref p) H') (lcGo gd td ed vs (items.drop i) ρ'),
    ⟨items.length, Nat.zero_add _, Hf1, wipeR ρ1 vs, [], [], Same.refl _, (S1.wipe vs).priv (.lst []) np, .nil, Nat.le_refl _, start⟩, fun i m H' hW => ?_⟩
  obtain ⟨hm, Hf', ρ', acc, av, s2, S2, r2, hl2, h2⟩ := hW
  obtain ⟨yg, ys⟩ := yl i H' Hf' s2 S2.ff
  cases e : items[i]? with
  | none =>
    have hl : items.length ≤ i := List.getElem?_eq_none_iff.mp e
    refine .inl ⟨ys hl, ?_⟩
    rw [List.drop_eq_nil_of_le hl] at h2
    exact h2 av H' Hf' (Same.refl _) S2 (by simpa using r2)
  | some d =>
    obtain ⟨hl, ed'⟩ := List.getElem?_eq_some_iff.mp e
    obtain ⟨go, yld⟩ := yg d e
    rw [List.drop_eq_getElem_cons hl, ed'] at h2
    refine .inr ⟨go, fun H3 => (i + 1) + (m - 1) = items.length ∧ ∃ Hf' ρ' acc av, Same Hf1 Hf' ∧ Sm K mg Z (upd C p (.lst av)) H3 Hf' (L2.wipe σ vs) ρ' ∧ RpA K mg Hf' acc av ∧ acc.length ≤ i + 1 ∧
      PostL K mg Z C Hf' p (L2.wipe σ vs) acc (fun H' => Q (.ref p) H') (lcGo gd td ed vs (items.drop (i + 1)) ρ'), fun H3 hN => ⟨m - 1, by omega, hN⟩, fun x H3 hy => ?_⟩
    obtain ⟨Hf3, s3, sh, ff, nw, rx⟩ := yld x H3 hy
    have S3 := S2.grow sh s3 ff nw
    refine hg.run Z _ H3 Hf3 _ ρ' x d _ S3 rx ?_
    have h3 : PostL K mg Z C Hf3 p (L2.wipe σ vs) acc (fun H' => Q (.ref p) H') ((gd d ρ').bind fun ρ1 => (td ρ1).bind fun p => if p.1 = true then (ed p.2).bind fun q => (lcGo gd td ed vs (items.drop (i + 1)) (wipeR q.2 vs)).bind fun r => .ok (q.1 :: r.1, r.2)
        else lcGo gd td ed vs (items.drop (i + 1)) (wipeR p.2 vs)) := h2.up s3
    cases q : gd d ρ' with
    | er => rw [q] at h3; exact h3
    | bad => rw [q] at h3; exact h3
    | ok ρ4 =>
      rw [q] at h3
      intro σ4 H4 Hf4 s4 S4 w4
      have w4' : L2.wipe σ4 vs = L2.wipe σ vs := w4.trans wipe_wipe
      refine ⟨w4', ht.run Z _ H4 Hf4 σ4 ρ4 _ S4 ?_⟩
      have h4 : PostL K mg Z C Hf4 p (L2.wipe σ vs) acc (fun H' => Q (.ref p) H') ((td ρ4).bind fun p => if p.1 = true then (ed p.2).bind fun q => (lcGo gd td ed vs (items.drop (i + 1)) (wipeR q.2 vs)).bind fun r => .ok (q.1 :: r.1, r.2)
        else lcGo gd td ed vs (items.drop (i + 1)) (wipeR p.2 vs)) := PostL.up h3 s4
      cases q4 : td ρ4 with
      | er => rw [q4] at h4; exact h4.elim
      | bad => rw [q4] at h4; exact h4.elim
      | ok bp =>
        obtain ⟨b, ρ5⟩ := bp
        rw [q4] at h4
        intro b' H5 Hf5 s5 S5 eb
        cases eb
        have h5 := PostL.up h4 s5
        cases b with
        | false =>
          refine iteF ⟨by omega, Hf5, wipeR ρ5 vs, acc, av, ((s2.trans s3).trans s4).trans s5, w4' ▸ S5.wipe vs, r2.up ((s3.trans s4).trans s5), by omega, h5⟩
        | true =>
          refine iteT (he.run Z _ H5 Hf5 σ4 ρ5 _ S5 ?_)
          have h6 : PostL K mg Z C Hf5 p (L2.wipe σ vs) acc (fun H' => Q (.ref p) H') ((ed ρ5).bind fun q => (lcGo gd td ed vs (items.drop (i + 1)) (wipeR q.2 vs)).bind fun r => .ok (q.1 :: r.1, r.2)) := h5
          cases q6 : ed ρ5 with
          | er => rw [q6] at h6; exact h6.elim
          | bad => rw [q6] at h6; exact h6.elim
          | ok yp =>
            obtain ⟨y, ρ7⟩ := yp
            rw [q6] at h6
            intro v H7 Hf7 s7 S7 ry
            have e7 : H7 p = some (.lst av) := S7.cf _ _ upd_same
            refine ⟨av, e7, ?_, ?_⟩
            · have := r2.length
              have z : sizeLine = 16777216 := sizeLine_eq
              omega
            · refine ⟨by omega, Hf7, wipeR ρ7 vs, acc ++ [y], av ++ [v], (((s2.trans s3).trans s4).trans s5).trans s7, w4' ▸ (S7.privSet (.lst (av ++ [v]))).wipe vs, (r2.up (((s3.trans s4).trans s5).trans s7)).append (.cons ry .nil), by simpa using hl2, ?_⟩
              have h7 : PostL K mg Z C Hf7 p (L2.wipe σ vs) acc (fun H' => Q (.ref p) H') ((lcGo gd td ed vs (items.drop (i + 1)) (wipeR ρ7 vs)).bind fun r => .ok (y :: r.1, r.2)) := PostL.up h6 s7
              cases q8 : lcGo gd td ed vs (items.drop (i + 1)) (wipeR ρ7 vs) with
              | er => rw [q8] at h7; exact h7
              | bad => rw [q8] at h7; exact h7
              | ok r8 =>
                obtain ⟨ys, ρn⟩ := r8
                rw [q8] at h7
                intro av' H8 Hf8 s8 S8 r8
                exact h7 av' H8 Hf8 s8 S8 (by simpa using r8))
theorem w_lc {wi : TI} {g : TG} {tt : TT} {te : TE} {it : ID} {gd : GD} {td : TD} {ed : ED} (hi : WI K mg W wi it) (hg : WV K mg vs g gd) (ht : WT K mg W0 tt td) (he : WE K mg W0 te ed) :
    WO K mg W (tLc wi g tt te vs) (oLc it gd td ed vs) := ⟨fun Z C H Hf σ ρ Q S hp => w_lcP (Pk := fun _ _ _ _ => True) (fun Z C H Hf σ ρ R S _ h => hi.run Z C H Hf σ ρ R S h) hg ht he Z C H Hf σ ρ Q S trivial hp⟩
end
end DL

set_option Elab.async false
set_option linter.all false
set_option maxRecDepth 100000
set_option maxHeartbeats 2000000
/-! DL5: promises of defs by data, calls -/
namespace DL
open PySem PySem.Spec PyProof.Rows L2

inductive FO where
  | val (d : D) | own (l : List D)
abbrev FF := List D → FR FO
abbrev FT := List D → List D → FR (D × List D)

def PostF (K : PySem.W.Frag) (mg : Str → Option Value) (C Hf : Hp) (Q : VK) (E : XK) : FR FO → Prop
  | .ok (.val r) => ∀ v H' Hf', Same Hf Hf' → Same Hf' H' → Same C H' → (∀ a o, C a = some o → Hf' a = none) → Rp K mg Hf' r v → Q v H'
  | .ok (.own l) => ∀ a xs H' Hf', Same Hf Hf' → Same Hf' H' → Same C H' → (∀ a o, C a = some o → Hf' a = none) → H' a = some (.lst xs) → Hf' a = none → C a = none → RpA K mg Hf' l xs → Q (.ref a) H'
  | .er e => ∀ H' Hf' a, Same Hf Hf' → Same Hf' H' → Same C H' → (∀ a o, C a = some o → Hf' a = none) → mg e = some (.ref a) → E (.ref a) none H'
  | .bad => False
/-- called with values that bear data, it hands back what F says -/
def spP (K : PySem.W.Frag) (mg : Str → Option Value) (F : FF) : Sp := fun vs H Q E => ∃ ds Hf C, Same Hf H ∧ Same C H ∧ (∀ a o, C a = some o → Hf a = none) ∧ (∀ a xs, C a ≠ some (.tup xs)) ∧ RpA K mg Hf ds vs ∧ PostF K mg C Hf Q E (F ds)
def PostFT (K : PySem.W.Frag) (mg : Str → Option Value) (C Hf : Hp) (z : Addr) (Q : VK) : FR (D × List D) → Prop
  | .ok (r, l) => ∀ v H' Hf' xs, Same Hf Hf' → Same Hf' H' → Same C H' → (∀ a o, C a = some o → Hf' a = none) → H' z = some (.lst xs) → Hf' z = none → RpA K mg Hf' l xs → Rp K mg Hf' r v → Q v H'
  | _ => False
/-- the first value is a list that it changes -/
def spT (K : PySem.W.Frag) (mg : Str → Option Value) (F : FT) : Sp := fun vs H Q E => ∃ z xs ws ts ds Hf C, vs = .ref z :: ws ∧ H z = some (.lst xs) ∧ Hf z = none ∧ C z = none ∧ RpA K mg Hf ts xs ∧ Same Hf H ∧ Same C H ∧ (∀ a o, C a = some o → Hf a = none) ∧ (∀ a xs, C a ≠ some (.tup xs)) ∧
  RpA K mg Hf ds ws ∧ PostFT K mg C Hf z Q (F ts ds)

/-- a body's outcome -/
def runP (n m : Nat) (d : SD) : FF := fun ds => if ds.length = m then (match d (ds.map (fun x => some (.fz x)) ++ List.replicate (n - m) none) with
  | .ok (.rt r _) => .ok (.val r)
  | .ok (.ro l _) => .ok (.own l)
  | .ok (.nx _) => .ok (.val .non)
  | .er e _ => .er e
  | _ => .bad) else .bad
/-- the caller's list, as slot 0 holds it -/
def own0 : Rho → Option (List D)
  | some (.ow 0 l) :: _ => some l
  | _ => none
def runT (n m : Nat) (d : SD) : FT := fun ts ds => if ds.length + 1 = m then (match d (some (.ow 0 ts) :: (ds.map (fun x => some (.fz x)) ++ List.replicate (n - m) none)) with
  | .ok (.rt r ρ) => (match own0 ρ with
    | some l => .ok (r, l)
    | none => .bad)
  | _ => .bad) else .bad

def dCall (F : FF) (a : AD) : ED := fun ρ => (a ρ).bind fun p => match F p.1 with
  | .ok (.val r) => .ok (r, p.2)
  | .ok (.own l) => .ok (.lst l, p.2)
  | .er e => .er e p.2
  | .bad => .bad
def oCall (F : FF) (a : AD) : AD := fun ρ => (a ρ).bind fun p => match F p.1 with
  | .ok (.own l) => .ok (l, p.2)
  | .er e => .er e p.2
  | _ => .bad
def dCallT (F : FT) (i : Nat) (a : AD) : ED := fun ρ => match ρ[i]? with
  | some (some (.ow _ _)) => (a ρ).bind fun p => match p.2[i]? with
    | some (some (.ow t l)) => (match F l p.1 with
      | .ok (r, l') => .ok (r, p.2.set i (some (.ow t l')))
      | _ => .bad)
    | _ => .bad
  | _ => .bad

section
variable {K : PySem.W.Frag} {mg : Str → Option Value} {Z : Addr} {W : WX} {C H Hf H' Hf' : Hp} {σ : Sl} {ρ : Rho}
def OwA (σ : Sl) (ρ : Rho) (a : Addr) : Prop := ∃ (i : Nat) (b : B), ρ[i]? = some (some b) ∧ isOw b = true ∧ σ[i]? = some (some (.ref a))
open Classical in
/-- what a callee must leave alone -/
noncomputable def ours (C : Hp) (σ : Sl) (ρ : Rho) (H : Hp) : Hp := fun a => if (C a).isSome = true ∨ OwA σ ρ a then H a else none
theorem ours_same : Same (ours C σ ρ H) H := fun a o e => by
  unfold ours at e
  split at e
  · exact e
  · cases e
theorem ours_dj (S : Sm K mg Z C H Hf σ ρ) : ∀ a o, ours C σ ρ H a = some o → Hf a = none := fun a o e => by
  unfold ours at e
  split at e
  · rename_i h
    rcases h with h | ⟨i, b, e1, ob, e2⟩
    · cases q : C a with
      | none => rw [q] at h; cases h
      | some u => exact S.dj a u q
    · obtain ⟨v, e3, r⟩ := S.sl i b e1
      obtain ⟨a', rfl, h1, _⟩ := r.addr ob
      rw [e2] at e3
      have : a = a' := by cases e3; rfl
      rw [this]; exact h1
  · cases e
theorem ours_cm (S : Sm K mg Z C H Hf σ ρ) : ∀ a xs, ours C σ ρ H a ≠ some (.tup xs) := fun a xs e => by
  unfold ours at e
  split at e
  · rename_i h
    rcases h with h | ⟨i, b, e1, ob, e2⟩
    · cases q : C a with
      | none => rw [q] at h; cases h
      | some u =>
        have z := S.cf a u q
        rw [e] at z
        exact S.cm a xs (q.trans z.symm)
    · obtain ⟨v, e3, r⟩ := S.sl i b e1
      rw [e2] at e3
      cases e3
      cases b with
      | fz d => cases ob
      | ow t l => obtain ⟨a', ys, z, h1, _⟩ := r; cases z; rw [e] at h1; cases h1
      | od l => obtain ⟨a', ys, z, h1, _⟩ := r; cases z; rw [e] at h1; cases h1
  · cases e
theorem ours_C (S : Sm K mg Z C H Hf σ ρ) : Same C (ours C σ ρ H) := fun a o e => by
  unfold ours
  rw [if_pos (Or.inl (by rw [e]; rfl))]
  exact S.cf a o e
theorem ours_ow (S : Sm K mg Z C H Hf σ ρ) {i : Nat} {b : B} {a : Addr} (e : ρ[i]? = some (some b)) (ob : isOw b = true) (es : σ[i]? = some (some (.ref a))) : ours C σ ρ H a = H a := by
  unfold ours
  exact if_pos (Or.inr ⟨i, b, e, ob, es⟩)
/-- behind a call that changed nothing of ours -/
theorem Sm.after (S : Sm K mg Z C H Hf σ ρ) (s : Same Hf Hf') (ff : Same Hf' H') (cf : Same (ours C σ ρ H) H') (dj : ∀ a o, ours C σ ρ H a = some o → Hf' a = none) : Sm K mg Z C H' Hf' σ ρ where
  ff := ff
  cf := (ours_C S).trans cf
  dj := fun a o e => dj a o (ours_C S a o e)
  ln := S.ln
  sl := fun i b e => by
    obtain ⟨v, e1, r⟩ := S.sl i b e
    refine ⟨v, e1, ?_⟩
    cases b with
    | fz d => exact Rp.up r s
    | ow t l =>
      obtain ⟨a, xs, rfl, h1, h2, h3, h4, h5⟩ := r
      have q : ours C σ ρ H a = some (.lst xs) := (ours_ow S e rfl e1).trans h1
      exact ⟨a, xs, rfl, cf _ _ q, dj _ _ q, h3, h4.up s, h5⟩
    | od l =>
      obtain ⟨a, xs, rfl, h1, h2, h3, h4⟩ := r
      have q : ours C σ ρ H a = some (.dT xs) := (ours_ow S e rfl e1).trans h1
      exact ⟨a, xs, rfl, cf _ _ q, dj _ _ q, h3, h4.up s⟩
  ds := S.ds
  cm := S.cm
theorem ours_none (S : Sm K mg Z C H Hf σ ρ) {a : Addr} (n : ours C σ ρ H a = none) : C a = none ∧ NoOw σ ρ a := by
  refine ⟨?_, fun i b e ob z => ?_⟩
  · cases q : C a with
    | none => rfl
    | some u => rw [ours_C S a u q] at n; cases n
  · obtain ⟨v, e1, r⟩ := S.sl i b e
    obtain ⟨a', rfl, _, _, q, hq⟩ := r.addr ob
    rw [e1] at z
    have : a' = a := by cases z; rfl
    subst this
    rw [ours_ow S e ob e1, hq] at n; cases n
/-! ### calls -/
theorem w_call {F : FF} {t : TA} {a : AD} (h : WA K mg W t a) : WE K mg W (tCallS (spP K mg F) (L2.WE W) t) (dCall F a) :=
  ⟨fun Z C H Hf σ ρ Q S hp => h.run Z C H Hf σ ρ _ S (Post.bind hp fun xs ρ1 vs H1 Hf1 s1 S1 r h1 => by
    refine ⟨xs, Hf1, ours C σ ρ1 H1, S1.ff, ours_same, ours_dj S1, ours_cm S1, r, ?_⟩
    dsimp only at h1
    cases q : F xs with
    | ok o =>
      rw [q] at h1
      cases o with
      | val d => exact fun v H2 Hf2 s2 ff cf dj r2 => h1 v H2 Hf2 s2 (S1.after s2 ff cf dj) r2
      | own l =>
        intro a xs' H2 Hf2 s2 ff cf dj e2 n2 nc r2
        obtain ⟨n3, no⟩ := ours_none S1 nc
        have S2 := S1.after s2 ff cf dj
        exact h1 _ _ _ (s2.trans (same_upd n2)) (S2.keep e2 n2 n3 no) (.lst upd_same (r2.up (same_upd n2)))
    | er e => rw [q] at h1; exact fun H2 Hf2 a s2 ff cf dj hm => h1 H2 Hf2 a s2 (S1.after s2 ff cf dj) hm
    | bad => rw [q] at h1; exact h1)⟩
theorem w_callO {F : FF} {t : TA} {a : AD} (h : WA K mg W t a) : WO K mg W (tCallS (spP K mg F) (L2.WE W) t) (oCall F a) :=
  ⟨fun Z C H Hf σ ρ Q S hp => h.run Z C H Hf σ ρ _ S (Post.bind hp fun xs ρ1 vs H1 Hf1 s1 S1 r h1 => by
    refine ⟨xs, Hf1, ours C σ ρ1 H1, S1.ff, ours_same, ours_dj S1, ours_cm S1, r, ?_⟩
    dsimp only at h1
    cases q : F xs with
    | ok o =>
      rw [q] at h1
      cases o with
      | val d => exact h1.elim
      | own l =>
        intro a xs' H2 Hf2 s2 ff cf dj e2 n2 nc r2
        obtain ⟨n3, no⟩ := ours_none S1 nc
        exact h1 _ _ _ s2 (S1.after s2 ff cf dj) ⟨a, xs', rfl, e2, n2, n3, no, r2⟩
    | er e => rw [q] at h1; exact fun H2 Hf2 a s2 ff cf dj hm => h1 H2 Hf2 a s2 (S1.after s2 ff cf dj) hm
    | bad => rw [q] at h1; exact h1)⟩
/-- a call that changes the list in slot i -/
theorem w_callT {F : FT} {i : Nat} {t : TA} {a : AD} (h : WA K mg W t a) : WE K mg W (tCallS (spT K mg F) (L2.WE W) (tCons (tVar i) t)) (dCallT F i a) :=
  ⟨fun Z C H Hf σ ρ Q S hp => by
    unfold dCallT at hp
    cases e : ρ[i]? with
    | none => rw [e] at hp; exact hp.elim
    | some b =>
      cases b with
      | none => rw [e] at hp; exact hp.elim
      | some b =>
        rw [e] at hp
        cases b with
        | fz d => exact hp.elim
        | od l => exact hp.elim
        | ow t0 l0 =>
          obtain ⟨v0, es, z, xs0, rfl, _⟩ := S.sl i _ e
          refine ⟨.ref z, es, h.run Z C H Hf σ ρ _ S (Post.bind hp fun ds ρ1 vs H1 Hf1 s1 S1 r h1 => ?_)⟩
          dsimp only at h1
          cases e1 : ρ1[i]? with
          | none => rw [e1] at h1; exact h1.elim
          | some b =>
            cases b with
            | none => rw [e1] at h1; exact h1.elim
            | some b =>
              rw [e1] at h1
              cases b with
              | fz d => exact h1.elim
              | od l => exact h1.elim
              | ow t1 l1 =>
                obtain ⟨v1, es1, z1, xs1, rfl, g1, g2, g3, g4, g5⟩ := S1.sl i _ e1
                have ez : z1 = z := by rw [es] at es1; cases es1; rfl
                subst ez
                let C2 : Hp := fun b => if b = z1 then none else ours C σ ρ1 H1 b
                have c2 : ∀ b, b ≠ z1 → C2 b = ours C σ ρ1 H1 b := fun b hb => if_neg hb
                have c2z : C2 z1 = none := if_pos rfl
                have c2s : Same C2 (ours C σ ρ1 H1) := fun b o q => by
                  by_cases hb : b = z1
                  · rw [hb, c2z] at q; cases q
                  · rw [← c2 b hb]; exact q
                refine ⟨z1, xs1, vs, l1, ds, Hf1, C2, rfl, g1, g2, c2z, g4, S1.ff, c2s.trans ours_same, fun b o q => ours_dj S1 b o (c2s b o q), fun b xs q => ours_cm S1 b xs (c2s _ _ q), r, ?_⟩
                cases q : F l1 ds with
                | ok p =>
                  obtain ⟨rr, l2⟩ := p
                  have h2 : Post K mg Z W C σ Hf1 (RD K mg) Q (.ok (rr, ρ1.set i (some (.ow t1 l2)))) := by
                    have := h1
                    dsimp only at this
                    rw [q] at this
                    exact this
                  intro v H2 Hf2 xs2 s2 ff cf dj e2 n2 ra r2
                  -- the state with the old list in its place
                  have S1' : Sm K mg Z C H1 Hf1 σ (ρ1.set i none) := by
                    refine ⟨S1.ff, S1.cf, S1.dj, by simpa using S1.ln, fun j c q => ?_, fun j k c d b q1 q2 => ?_, S1.cm⟩
                    · by_cases hj : i = j
                      · subst hj
                        rw [List.getElem?_set_self (List.getElem?_eq_some_iff.mp e1).1] at q; cases q
                      · rw [List.getElem?_set_ne hj] at q; exact S1.sl j c q
                    · have f : ∀ {j c}, (ρ1.set i none)[j]? = some (some c) → ρ1[j]? = some (some c) := fun {j c} q => by
                        by_cases hj : i = j
                        · subst hj
                          rw [List.getElem?_set_self (List.getElem?_eq_some_iff.mp e1).1] at q; cases q
                        · rw [List.getElem?_set_ne hj] at q; exact q
                      exact S1.ds j k c d b (f q1) (f q2)
                  have sub : ∀ b o, ours C σ (ρ1.set i none) H1 b = some o → C2 b = some o := fun b o q => by
                    have hb : b ≠ z1 := fun zz => by
                      subst zz
                      unfold ours at q
                      split at q
                      · rename_i hh
                        rcases hh with hh | ⟨j, c, f1, f2, f3⟩
                        · rw [g3] at hh; cases hh
                        · by_cases hj : i = j
                          · subst hj
                            rw [List.getElem?_set_self (List.getElem?_eq_some_iff.mp e1).1] at f1; cases f1
                          · rw [List.getElem?_set_ne hj] at f1
                            exact hj (S1.ds i j _ c b e1 f1 rfl f2 es f3)
                      · cases q
                    rw [c2 b hb]
                    unfold ours at q ⊢
                    split at q
                    · rename_i hh
                      rw [if_pos ?_]
                      · exact q
                      · rcases hh with hh | ⟨j, c, f1, f2, f3⟩
                        · exact .inl hh
                        · refine .inr ⟨j, c, ?_, f2, f3⟩
                          by_cases hj : i = j
                          · subst hj
                            rw [List.getElem?_set_self (List.getElem?_eq_some_iff.mp e1).1] at f1; cases f1
                          · rw [List.getElem?_set_ne hj] at f1; exact f1
                    · cases q
                  have S2 : Sm K mg Z C H2 Hf2 σ (ρ1.set i none) := S1'.after s2 ff (fun b o q => cf b o (sub b o q)) fun b o q => dj b o (sub b o q)
                  have S3 := S2.setB i (v := .ref z1) (b := .ow t1 l2) ⟨z1, xs2, rfl, e2, n2, g3, ra, g5⟩ (fun _ j c b eb qc oc zz => by
                    have : b = z1 := by cases eb; rfl
                    subst this
                    by_cases hj : i = j
                    · subst hj
                      rw [List.getElem?_set_self (List.getElem?_eq_some_iff.mp e1).1] at qc; cases qc
                    · rw [List.getElem?_set_ne hj] at qc
                      exact hj (S1.ds i j _ c b e1 qc rfl oc es zz))
                  rw [List.set_set] at S3
                  have eσ : σ.set i (some (.ref z1)) = σ := by
                    apply List.ext_getElem?
                    intro j
                    by_cases hj : i = j
                    · subst hj
                      rw [List.getElem?_set_self (List.getElem?_eq_some_iff.mp es).1, es]
                    · rw [List.getElem?_set_ne hj]
                  rw [eσ] at S3
                  exact h2 v H2 Hf2 s2 S3 r2
                | er e => have := h1; dsimp only at this; rw [q] at this; exact this
                | bad => have := h1; dsimp only at this; rw [q] at this; exact this⟩
end
/-! ### defs -/
section
variable {P : Program} {w : World} {K : PySem.W.Frag} {mg : Str → Option Value} {base : Heap}
theorem start_get {N : List Str} {vs : List V} {i : Nat} {v : V} (h : vs[i]? = some v) : (L2.start N vs)[i]? = some (some v) := by
  unfold L2.start
  have hl : i < vs.length := (List.getElem?_eq_some_iff.mp h).1
  rw [List.getElem?_append_left (by simpa using hl), List.getElem?_map, h]
  rfl
theorem fz_get {ds : List D} {k i : Nat} {b : B} (h : (ds.map (fun x => some (B.fz x)) ++ List.replicate k none)[i]? = some (some b)) : ∃ d, b = .fz d ∧ ds[i]? = some d := by
  by_cases hl : i < ds.length
  · rw [List.getElem?_append_left (by simpa using hl), List.getElem?_map] at h
    cases q : ds[i]? with
    | none => rw [q] at h; cases h
    | some d =>
      rw [q] at h
      have h' : some (some (B.fz d)) = some (some b) := h
      cases h'
      exact ⟨d, rfl, rfl⟩
  · rw [List.getElem?_append_right (by simpa using hl)] at h
    have := List.mem_of_getElem? h
    simp [List.mem_replicate] at this
theorem sm_start {C H Hf : Hp} {N : List Str} {vs : List V} {ds : List D} {m : Nat} (ff : Same Hf H) (cf : Same C H) (dj : ∀ a o, C a = some o → Hf a = none) (cm : ∀ a xs, C a ≠ some (.tup xs)) (r : RpA K mg Hf ds vs) (hm : ds.length = m) :
    Sm K mg 0 C H Hf (L2.start N vs) (ds.map (fun x => some (.fz x)) ++ List.replicate (N.length - m) none) where
  ff := ff
  cf := cf
  dj := dj
  ln := by
    subst hm
    unfold L2.start
    simp [r.length]
  sl := fun i b e => by
    obtain ⟨d, rfl, e1⟩ := fz_get e
    obtain ⟨v, e2, r2⟩ := r.get e1
    exact ⟨v, start_get e2, r2⟩
  cm := cm
  ds := fun i j b c a e1 _ o1 _ _ _ => by
    obtain ⟨d, rfl, _⟩ := fz_get e1
    cases o1
theorem sm_startT {C H Hf : Hp} {N : List Str} {vs : List V} {ds ts : List D} {xs : List V} {z : Addr} {m : Nat} (ff : Same Hf H) (cf : Same C H) (dj : ∀ a o, C a = some o → Hf a = none) (cm : ∀ a xs, C a ≠ some (.tup xs)) (r : RpA K mg Hf ds vs) (hm : ds.length + 1 = m)
    (e : H z = some (.lst xs)) (nf : Hf z = none) (nc : C z = none) (rt : RpA K mg Hf ts xs) :
    Sm K mg z C H Hf (L2.start N (.ref z :: vs)) (some (.ow 0 ts) :: (ds.map (fun x => some (.fz x)) ++ List.replicate (N.length - m) none)) where
  ff := ff
  cf := cf
  dj := dj
  ln := by
    subst hm
    unfold L2.start
    simp [r.length]
  sl := fun i b e' => by
    cases i with
    | zero =>
      have : b = .ow 0 ts := by simpa using e'.symm
      subst this
      exact ⟨.ref z, rfl, z, xs, rfl, e, nf, nc, rt, fun _ => rfl⟩
    | succ i =>
      obtain ⟨d, rfl, e1⟩ := fz_get (i := i) (by simpa using e')
      obtain ⟨v, e2, r2⟩ := r.get e1
      exact ⟨v, start_get (by simpa using e2), r2⟩
  cm := cm
  ds := fun i j b c a e1 e2 o1 o2 _ _ => by
    cases i with
    | zero =>
      cases j with
      | zero => rfl
      | succ j =>
        obtain ⟨d, rfl, _⟩ := fz_get (i := j) (by simpa using e2)
        cases o2
    | succ i =>
      obtain ⟨d, rfl, _⟩ := fz_get (i := i) (by simpa using e1)
      cases o1
variable {x qual : Str} {params : Arguments} {body : List Stmt} {scope : Scope} {f : Addr} {fd : FuncData} {N ps : List Str} {k : Nat}
abbrev CXo (P : Program) (w : World) (K : PySem.W.Frag) (mg : Str → Option Value) (base : Heap) (N : List Str) (qual : Str) (scope : Scope) (f : Addr) (cdv : Value) (A : Around) (outer : List PySem.Env) (s : Shared) (H : Hp) (E : XK) : Cx :=
  cxOf (L2.CX P w) P w K mg base N qual scope f cdv A outer s H E
abbrev WEE (E : XK) : WX := fun cls d _ H => E cls d H
theorem fn_pure (F : FunD K x qual params body scope [] [] f fd) (S : FnScope N ps scope) (d : SD)
    (hb : ∀ (cdv : Value) (A : Around) (outer : List PySem.Env) (s : Shared) (H : Hp) (E : XK), Room k (A.deeper (envOfC qual scope s.heap.objs.size f cdv)) →
      ∃ t, PSs (CXo P w K mg base N qual scope f cdv A outer s H E) body t ∧ WS K mg (WEE E) t d) :
    FnOk P w K mg base (L2.CX P w) (k + 1) f fd ps (spP K mg (runP N.length ps.length d)) := by
  refine F.ok S (fun vs H Q E h => ?_) (fun cdv A outer s H vs Q E hr h => ?_)
  · obtain ⟨ds, Hf, C, _, _, _, _, r, h⟩ := h
    unfold runP at h
    split at h
    · rename_i hl; rw [← r.length]; exact hl
    · exact h.elim
  · obtain ⟨ds, Hf, C, ff, cf, dj, cm, r, h⟩ := h
    obtain ⟨t, p, ws⟩ := hb cdv A outer s H E hr
    refine ⟨t, p, ?_⟩
    unfold runP at h
    split at h
    case isFalse => exact h.elim
    rename_i hl
    refine ws.run 0 C H Hf _ _ _ (sm_start ff cf dj cm r hl) ?_
    cases q : d (ds.map (fun x => some (.fz x)) ++ List.replicate (N.length - ps.length) none) with
    | ok fl =>
      rw [q] at h
      cases fl with
      | nx ρ' => exact fun σ' H' Hf' s' S' => h .non H' Hf' s' S'.ff S'.cf S'.dj .non
      | rt r ρ' => exact fun v σ' H' Hf' s' S' r' => h v H' Hf' s' S'.ff S'.cf S'.dj r'
      | ro l ρ' =>
        intro v σ' H' Hf' s' S' r'
        obtain ⟨a, xs, rfl, e, n, nc, _, ra⟩ := r'
        exact h a xs H' Hf' s' S'.ff S'.cf S'.dj e n nc ra
      | bk ρ' => exact h.elim
      | ct ρ' => exact h.elim
    | er e ρ' => rw [q] at h; exact fun σ' H' Hf' a s' S' hm => h H' Hf' a s' S'.ff S'.cf S'.dj hm
    | bad => rw [q] at h; exact h
theorem fn_tin (F : FunD K x qual params body scope [] [] f fd) (S : FnScope N ps scope) (d : SD)
    (hb : ∀ (cdv : Value) (A : Around) (outer : List PySem.Env) (s : Shared) (H : Hp) (E : XK), Room k (A.deeper (envOfC qual scope s.heap.objs.size f cdv)) →
      ∃ t, PSs (CXo P w K mg base N qual scope f cdv A outer s H E) body t ∧ WS K mg (WEE E) t d) :
    FnOk P w K mg base (L2.CX P w) (k + 1) f fd ps (spT K mg (runT N.length ps.length d)) := by
  refine F.ok S (fun vs H Q E h => ?_) (fun cdv A outer s H vs Q E hr h => ?_)
  · obtain ⟨z, xs, ws, ts, ds, Hf, C, rfl, _, _, _, _, _, _, _, _, r, h⟩ := h
    unfold runT at h
    split at h
    · rename_i hl; rw [List.length_cons, ← r.length]; exact hl
    · exact h.elim
  · obtain ⟨z, xs, ws, ts, ds, Hf, C, rfl, e, nf, nc, rt, ff, cf, dj, cm, r, h⟩ := h
    obtain ⟨t, p, wS⟩ := hb cdv A outer s H E hr
    refine ⟨t, p, ?_⟩
    unfold runT at h
    split at h
    case isFalse => exact h.elim
    rename_i hl
    refine wS.run z C H Hf _ _ _ (sm_startT ff cf dj cm r hl e nf nc rt) ?_
    cases q : d (some (.ow 0 ts) :: (ds.map (fun x => some (.fz x)) ++ List.replicate (N.length - ps.length) none)) with
    | ok fl =>
      rw [q] at h
      cases fl with
      | nx ρ' => exact h.elim
      | rt r ρ' =>
        intro v σ' H' Hf' s' S' r'
        dsimp only at h
        split at h
        · rename_i l eo
          have e0 : ρ'[0]? = some (some (.ow 0 l)) := by
            cases ρ' with
            | nil => cases eo
            | cons b bs =>
              cases b with
              | none => cases eo
              | some b =>
                cases b with
                | fz d => cases eo
                | od d => cases eo
                | ow t l' =>
                  cases t with
                  | zero =>
                    have : l' = l := by simpa [own0] using eo
                    rw [this]; rfl
                  | succ t => cases eo
          obtain ⟨v0, es, a, xs', rfl, h1, h2, h3, h4, h5⟩ := S'.sl 0 _ e0
          have ez := h5 rfl
          subst ez
          exact h v H' Hf' xs' s' S'.ff S'.cf S'.dj h1 h2 h4 r'
        · exact h.elim
      | ro l ρ' => exact h.elim
      | bk ρ' => exact h.elim
      | ct ρ' => exact h.elim
    | er e ρ' => rw [q] at h; exact h.elim
    | bad => rw [q] at h; exact h
/-- the module's name x is a def that does F, at level k -/
structure Has (P : Program) (w : World) (K : PySem.W.Frag) (mg : Str → Option Value) (base : Heap) (x : Str) (k : Nat) (F : FF) : Prop where
  ex : ∃ f fd ps, mg x = some (.ref f) ∧ PySem.W.keepIn K (.ref f) = true ∧ Binds K fd ps [] ∧ FnOk P w K mg base (L2.CX P w) k f fd ps (spP K mg F)
structure HasT (P : Program) (w : World) (K : PySem.W.Frag) (mg : Str → Option Value) (base : Heap) (x : Str) (k : Nat) (F : FT) : Prop where
  ex : ∃ f fd ps, mg x = some (.ref f) ∧ PySem.W.keepIn K (.ref f) = true ∧ Binds K fd ps [] ∧ FnOk P w K mg base (L2.CX P w) k f fd ps (spT K mg F)
end
end DL

set_option Elab.async false
set_option linter.all false
set_option maxRecDepth 100000
set_option maxHeartbeats 2000000
/-! DL6: operations on data -/
namespace DL
open PySem PySem.Spec PyProof.Rows L2

/-! ### ints -/
def cmI (f : Int → Int → Bool) : D → D → Option D
  | .int i, .int j => some (.bl (f i j))
  | _, _ => none
abbrev ltD := cmI fun i j => decide (i < j)
abbrev leD := cmI fun i j => decide (i ≤ j)
abbrev gtD := cmI fun i j => decide (j < i)
abbrev geD := cmI fun i j => decide (j ≤ i)
def subD : D → D → Option D
  | .int i, .int j => some (.int (i - j))
  | _, _ => none
def addD : D → D → Option D
  | .int i, .int j => some (.int (i + j))
  | .tup a, .tup b => if a.length + b.length ≤ 1000000 then some (.tup (a ++ b)) else none
  | .str a, .str b => if a.length + b.length ≤ 1000000 then some (.str (a ++ b)) else none
  | .lst a, .lst b => if a.length + b.length ≤ 1000000 then some (.lst (a ++ b)) else none
  | _, _ => none
/-- list + list: a new list -/
def catL : D → D → Option (List D)
  | .lst a, .lst b => if a.length + b.length ≤ 1000000 then some (a ++ b) else none
  | _, _ => none
def mulD : D → D → Option D
  | .int i, .int j => if (-18446744073709551616 < i ∧ i < 18446744073709551616) ∨ (-18446744073709551616 < j ∧ j < 18446744073709551616) then some (.int (i * j)) else none
  | .tup a, .int k => if a ≠ [] ∧ 1 ≤ k ∧ k ≤ 1000 ∧ a.length ≤ 1000 then some (.tup (List.replicate k.toNat a).flatten) else none
  | .lst a, .int k => if 0 ≤ k ∧ k < 4294967296 ∧ a.length * k.toNat ≤ 1000000 then some (.lst (List.replicate k.toNat a).flatten) else none
  | _, _ => none
def repL : D → D → Option (List D)
  | .lst a, .int k => if -9223372036854775808 ≤ k ∧ k < 9223372036854775808 ∧ a.length * k.toNat ≤ 1000000 then some (List.replicate k.toNat a).flatten else none
  | _, _ => none
def modD : D → D → Option D
  | .int i, .int j => if 0 < j then some (.int (i % j)) else none
  | _, _ => none
def fdivD : D → D → Option D
  | .int i, .int j => if 0 < j ∧ j < 1073741824 then some (.int (i / j)) else none
  | _, _ => none
def powD : D → D → Option D
  | .int i, .int j => if 0 ≤ j ∧ j ≤ 1000000 ∧ i.natAbs < 2 ^ 64 then some (.int (i ^ j.toNat)) else none
  | _, _ => none
def negD : D → Option D
  | .int i => some (.int (-i))
  | _ => none
/-! ### == of data -/
mutual
def toP : D → Option PyData
  | .non => some .none
  | .bl b => some (.bool b)
  | .int i => some (.int i)
  | .str x => if PySem.PyData.strOk x = true then some (.str x) else none
  | .lst l => (toPs l).map .list
  | .tup l => (toPs l).map .tuple
  | .dic _ => none
  | .fn _ => none
  | .scr _ => none
def toPs : List D → Option (List PyData)
  | [] => some []
  | d :: ds => match toP d, toPs ds with
    | some p, some ps => some (p :: ps)
    | _, _ => none
end
def eqD (x y : D) : Option D := match toP x, toP y with
  | some a, some b => if a.depth ≤ 64 ∧ b.depth ≤ 64 then some (.bl (PyData.eqv a b)) else none
  | _, _ => none
def neD (x y : D) : Option D := match toP x, toP y with
  | some a, some b => if a.depth ≤ 64 ∧ b.depth ≤ 64 then some (.bl (!PyData.eqv a b)) else none
  | _, _ => none
def isN : D → D → Option D
  | x, .non => some (.bl (match x with
    | .non => true
    | _ => false))
  | _, _ => none
def notN : D → D → Option D
  | x, .non => some (.bl (match x with
    | .non => false
    | _ => true))
  | _, _ => none
/-- x in (..), flat things -/
def flatD : D → Option V
  | .non => some .non
  | .bl b => some (.bl b)
  | .int i => some (.int i)
  | .str x => some (.str x)
  | _ => none
def flats : List D → Option (List V)
  | [] => some []
  | d :: ds => match flatD d, flats ds with
    | some v, some vs => some (v :: vs)
    | _, _ => none
def inD' (x : D) (l : List D) : Option Bool := match flatD x, flats l with
  | some v, some vs => some (inV v vs)
  | _, _ => none
def inD : D → D → Option D
  | x, .tup l => (inD' x l).map .bl
  | x, .lst l => (inD' x l).map .bl
  | _, _ => none
def ninD : D → D → Option D
  | x, .tup l => (inD' x l).map fun b => .bl (!b)
  | x, .lst l => (inD' x l).map fun b => .bl (!b)
  | _, _ => none
/-! ### items, slices -/
def atD (l : List D) (i : Int) : Option D := atI l i
def idxD : D → D → Option D
  | .lst l, .int i => atI l i
  | .tup l, .int i => atI l i
  | .scr l, .int i => (atI l i).map .int
  | _, _ => none
def cutD (l : List D) (lo hi : Option Int) : List D := (l.drop (HT.sIx l.length 0 lo)).take (HT.sIx l.length l.length hi - HT.sIx l.length 0 lo)
def slT (lo hi : Option Int) : D → Option D
  | .tup l => some (.tup (cutD l lo hi))
  | _ => none
def slL (lo hi : Option Int) : D → Option (List D)
  | .lst l => some (cutD l lo hi)
  | .scr l => some (cutD (l.map D.int) lo hi)
  | _ => none
/-! ### built-ins -/
def lenD : List D → Option D
  | [.lst l] => some (.int l.length)
  | [.tup l] => some (.int l.length)
  | [.scr l] => some (.int l.length)
  | _ => none
def absD : List D → Option D
  | [.int i] => some (.int (if i < 0 then -i else i))
  | _ => none
def intD : List D → Option D
  | [.int i] => some (.int i)
  | [.bl b] => some (.int (if b then 1 else 0))
  | _ => none
def max2 : List D → Option D
  | [.int i, .int j] => some (.int (if j > i then j else i))
  | _ => none
def min2 : List D → Option D
  | [.int i, .int j] => some (.int (if j < i then j else i))
  | _ => none
def unI : List D → Option (List Int)
  | [] => some []
  | .int i :: l => (unI l).map (i :: ·)
  | _ => none
def unB : List D → Option (List Bool)
  | [] => some []
  | .bl b :: l => (unB l).map (b :: ·)
  | _ => none
def sumD : List D → Option D
  | [.lst l] => (unI l).map fun ns => .int ns.sum
  | _ => none
def allD : List D → Option D
  | [.lst l] => (unB l).map fun bs => .bl (bs.all id)
  | _ => none
def anyD : List D → Option D
  | [.lst l] => (unB l).map fun bs => .bl (bs.any id)
  | _ => none
def mxI (l : List Int) : Int := l.foldl max (l.headD 0)
def mnI (l : List Int) : Int := l.foldl min (l.headD 0)
def maxL : List D → Option D
  | [.lst l] => (unI l).bind fun ns => if 0 < ns.length then some (.int (mxI ns)) else none
  | _ => none
def minL : List D → Option D
  | [.lst l] => (unI l).bind fun ns => if 0 < ns.length then some (.int (mnI ns)) else none
  | _ => none
def tupD : List D → Option D
  | [.lst l] => some (.tup l)
  | [.tup l] => some (.tup l)
  | _ => none
def listO : List D → Option (List D)
  | [.lst l] => some l
  | [.tup l] => some l
  | [.scr l] => some (l.map D.int)
  | _ => none
def srtI (l : List Int) : List Int := l.mergeSort (fun a b => decide (a ≤ b))
def sortO : List D → Option (List D)
  | [.lst l] => (unI l).map fun ns => (srtI ns).map D.int
  | _ => none
inductive Ty where
  | int | bool | str | list | tuple
  deriving DecidableEq
def Ty.name : Ty → String
  | .int => "int" | .bool => "bool" | .str => "str" | .list => "list" | .tuple => "tuple"
def isTy : Ty → D → Option Bool
  | t, .non => some false
  | t, .bl _ => some (t = .int ∨ t = .bool)
  | t, .int _ => some (t = .int)
  | t, .str _ => some (t = .str)
  | t, .lst _ => some (t = .list)
  | t, .tup _ => some (t = .tuple)
  | t, .dic _ => none
  | t, .fn _ => none
  | t, .scr _ => none
def isD1 (t : Ty) (d : D) : Option D := (isTy t d).map .bl
def isD2 (t u : Ty) (d : D) : Option D := match isTy t d, isTy u d with
  | some a, some b => some (.bl (a || b))
  | _, _ => none

section
variable {K : PySem.W.Frag} {mg : Str → Option Value} {H Hf : Hp}
theorem unI_eq : ∀ {l : List D} {ns : List Int}, unI l = some ns → l = iL ns
  | [], ns, h => by cases h; rfl
  | d :: l, ns, h => by
    cases d with
    | int i =>
      have h' : (unI l).map (i :: ·) = some ns := h
      cases q : unI l with
      | none => rw [q] at h'; cases h'
      | some ms =>
        rw [q] at h'
        cases h'
        rw [unI_eq q]; rfl
    | _ => cases h
theorem unI_iL : ∀ ns : List Int, unI (iL ns) = some ns
  | [] => rfl
  | i :: ns => by show (unI (iL ns)).map (i :: ·) = _; rw [unI_iL ns]; rfl
theorem unB_rp : ∀ {l : List D} {bs : List Bool} {vs : List V}, unB l = some bs → RpA K mg Hf l vs → vs = bs.map V.bl
  | [], bs, vs, h, r => by cases h; cases r; rfl
  | d :: l, bs, vs, h, r => by
    cases d with
    | bl b =>
      have h' : (unB l).map (b :: ·) = some bs := h
      cases q : unB l with
      | none => rw [q] at h'; cases h'
      | some ms =>
        rw [q] at h'
        cases h'
        cases r with
        | cons r1 r2 => cases r1; rw [unB_rp q r2]; rfl
    | _ => cases h
theorem unI_rp {l : List D} {ns : List Int} {vs : List V} (h : unI l = some ns) (r : RpA K mg Hf l vs) : vs = ns.map V.int := by
  rw [unI_eq h] at r
  exact r.iL_of
mutual
theorem dp_of (ff : Same Hf H) : ∀ (d : D) (v : V) (p : PyData), toP d = some p → Rp K mg Hf d v → Dp K H v p
  | .non, _, p, h, r => by cases h; cases r; exact .non
  | .bl b, _, p, h, r => by cases h; cases r; exact .bl b
  | .int i, _, p, h, r => by cases h; cases r; exact .int i
  | .str x, _, p, h, r => by
    cases r
    have h' : (if PySem.PyData.strOk x = true then some (PyData.str x) else none) = some p := h
    split at h'
    · cases h'; exact .str x
    · cases h'
  | .lst l, _, p, h, r => by
    cases r with
    | lst e ra =>
      have h' : (toPs l).map PyData.list = some p := h
      cases q : toPs l with
      | none => rw [q] at h'; cases h'
      | some ps =>
        rw [q] at h'
        cases h'
        exact .lst (.inl (.inl (ff _ _ e))) (dps_of ff l _ ps q ra)
  | .tup l, _, p, h, r => by
    cases r with
    | tup e ra =>
      have h' : (toPs l).map PyData.tuple = some p := h
      cases q : toPs l with
      | none => rw [q] at h'; cases h'
      | some ps =>
        rw [q] at h'
        cases h'
        exact .tup (tq ff e) (dps_of ff l _ ps q ra)
  | .dic _, _, p, h, r => by cases h
  | .fn _, _, p, h, r => by cases h
  | .scr _, _, p, h, r => by cases h
theorem dps_of (ff : Same Hf H) : ∀ (ds : List D) (vs : List V) (ps : List PyData), toPs ds = some ps → RpA K mg Hf ds vs → DpAll K H vs ps
  | [], _, ps, h, r => by cases h; cases r; exact .nil
  | d :: ds, _, ps, h, r => by
    cases r with
    | cons r1 r2 =>
      have h' : (match toP d, toPs ds with
        | some p, some ps => some (p :: ps)
        | _, _ => none) = some ps := h
      cases q1 : toP d with
      | none => rw [q1] at h'; cases h'
      | some p1 =>
        cases q2 : toPs ds with
        | none => rw [q1, q2] at h'; cases h'
        | some p2 =>
          rw [q1, q2] at h'
          cases h'
          exact .cons (dp_of ff d _ p1 q1 r1) (dps_of ff ds _ p2 q2 r2)
end
mutual
theorem lay_of : ∀ (d : D) (p : PyData), toP d = some p → p.canLay0 = true
  | .non, p, h => by cases h; rfl
  | .bl b, p, h => by cases h; rfl
  | .int i, p, h => by cases h; rfl
  | .str x, p, h => by
    have h' : (if PySem.PyData.strOk x = true then some (PyData.str x) else none) = some p := h
    split at h'
    · rename_i hx
      cases h'
      simpa [PyData.canLay0] using hx
    · cases h'
  | .lst l, p, h => by
    have h' : (toPs l).map PyData.list = some p := h
    cases q : toPs l with
    | none => rw [q] at h'; cases h'
    | some ps => rw [q] at h'; cases h'; simpa [PyData.canLay0] using lays_of l ps q
  | .tup l, p, h => by
    have h' : (toPs l).map PyData.tuple = some p := h
    cases q : toPs l with
    | none => rw [q] at h'; cases h'
    | some ps => rw [q] at h'; cases h'; simpa [PyData.canLay0] using lays_of l ps q
  | .dic _, p, h => by cases h
  | .fn _, p, h => by cases h
  | .scr _, p, h => by cases h
theorem lays_of : ∀ (ds : List D) (ps : List PyData), toPs ds = some ps → PyData.canLayAll0 ps = true
  | [], ps, h => by cases h; simp [PyData.canLayAll0]
  | d :: ds, ps, h => by
    have h' : (match toP d, toPs ds with
      | some p, some ps => some (p :: ps)
      | _, _ => none) = some ps := h
    cases q1 : toP d with
    | none => rw [q1] at h'; cases h'
    | some p1 =>
      cases q2 : toPs ds with
      | none => rw [q1, q2] at h'; cases h'
      | some p2 =>
        rw [q1, q2] at h'
        cases h'
        simp [PyData.canLayAll0, lay_of d p1 q1, lays_of ds p2 q2]
end
theorem flatD_rp {d : D} {v u : V} (h : flatD d = some v) (r : Rp K mg Hf d u) : u = v ∧ flatV v = true := by
  cases d with
  | non => cases h; cases r; exact ⟨rfl, rfl⟩
  | bl b => cases h; cases r; exact ⟨rfl, rfl⟩
  | int i => cases h; cases r; exact ⟨rfl, rfl⟩
  | str x => cases h; cases r; exact ⟨rfl, rfl⟩
  | _ => cases h
theorem flats_rp : ∀ {ds : List D} {vs us : List V}, flats ds = some vs → RpA K mg Hf ds us → us = vs ∧ vs.all flatV = true
  | [], vs, us, h, r => by cases h; cases r; exact ⟨rfl, rfl⟩
  | d :: ds, vs, us, h, r => by
    cases r with
    | cons r1 r2 =>
      have h' : (match flatD d, flats ds with
        | some v, some vs => some (v :: vs)
        | _, _ => none) = some vs := h
      cases q1 : flatD d with
      | none => rw [q1] at h'; cases h'
      | some p1 =>
        cases q2 : flats ds with
        | none => rw [q1, q2] at h'; cases h'
        | some p2 =>
          rw [q1, q2] at h'
          cases h'
          obtain ⟨rfl, a⟩ := flatD_rp q1 r1
          obtain ⟨rfl, b⟩ := flats_rp q2 r2
          exact ⟨rfl, by simp [List.all_cons, a, b]⟩
/-! ### they do so -/
theorem o_cmp {f : Int → Int → Bool} : OpD K mg (rI0 fun i j => .bl (f i j)) (cmI f) := fun Z W C H Hf σ ρ x y v u Q S rx ry h => by
  unfold cmI at h
  split at h
  · cases rx; cases ry; exact ⟨_, _, rfl, rfl, h.done S (.bl _)⟩
  · exact h.elim
theorem o_cmpB {f : Int → Int → Bool} : OpB K mg (rI0 fun i j => .bl (f i j)) (cmI f) := fun Z C H Hf σ ρ x y v u Q S rx ry h hn => by
  unfold cmI at h hn
  split at h
  · cases rx; cases ry; exact ⟨_, _, rfl, rfl, (h _ rfl).2 _ rfl⟩
  · simp at hn
theorem cm_b {f : Int → Int → Bool} : ∀ x y z, cmI f x y = some z → ∃ b, z = .bl b := fun x y z h => by
  unfold cmI at h
  split at h
  · cases h; exact ⟨_, rfl⟩
  · cases h
theorem o_sub : OpD K mg (rI0 fun i j => .int (i - j)) subD := fun Z W C H Hf σ ρ x y v u Q S rx ry h => by
  unfold subD at h
  split at h
  · cases rx; cases ry; exact ⟨_, _, rfl, rfl, h.done S (.int _)⟩
  · exact h.elim
def rAddU (K : PySem.W.Frag) : R2 := fun x y H Q => rI0 (fun i j => .int (i + j)) x y H Q ∨ (rCatA K x y H Q ∨ ((∃ i j, x = .str i ∧ y = .str j ∧ i.length + j.length ≤ sizeLine ∧ Q (.str (i ++ j)) H) ∨ rCat x y H Q))
theorem opAddU {X : Cx} : OpR X (binaryOp .Add) (rAddU X.K) := op_add.or (op_catA.or (op_add_str.or op_cat))
theorem RpA.nil_iff {l : List D} {vs : List V} (r : RpA K mg Hf l vs) : vs = [] ↔ l = [] := by
  have := r.length
  constructor
  · intro h; subst h; exact List.eq_nil_of_length_eq_zero this
  · intro h; subst h; exact List.eq_nil_of_length_eq_zero this.symm
theorem o_add : OpD K mg (rAddU K) addD := fun Z W C H Hf σ ρ x y v u Q S rx ry h => by
  unfold addD at h
  split at h
  · cases rx; cases ry; exact .inl ⟨_, _, rfl, rfl, h.done S (.int _)⟩
  · rename_i a b
    split at h
    · rename_i hl
      cases rx with
      | @tup pa xs _ ea ra =>
        cases ry with
        | @tup pb ys _ eb rb =>
          refine .inr (.inl ⟨pa, pb, xs, ys, rfl, rfl, tq S.ff ea, tq S.ff eb, sz_ok (by rw [← ra.length, ← rb.length]; exact hl), fun e1 => ?_, fun e1 e2 => ?_, fun e1 e2 p np => ?_⟩)
          · have := ra.nil_iff.mp e1
            subst this
            exact h.done S (.tup eb rb)
          · have := rb.nil_iff.mp e2
            subst this
            exact h.done S (.tup ea (by simpa using ra))
          · exact h _ _ _ (same_upd (S.free np)) (S.laid (.tup (xs ++ ys)) np) (.tup upd_same ((ra.append rb).up (same_upd (S.free np))))
    · exact h.elim
  · rename_i a b
    split at h
    · rename_i hl
      cases rx; cases ry; exact .inr (.inr (.inl ⟨_, _, rfl, rfl, sz_ok hl, h.done S (.str _)⟩))
    · exact h.elim
  · rename_i a b
    split at h
    · rename_i hl
      cases rx with
      | @lst pa xs _ ea ra =>
        cases ry with
        | @lst pb ys _ eb rb =>
          refine .inr (.inr (.inr ⟨pa, pb, xs, ys, rfl, rfl, S.ff _ _ ea, S.ff _ _ eb, sz_ok (by rw [← ra.length, ← rb.length]; exact hl), fun p np => ?_⟩))
          exact h _ _ _ (same_upd (S.free np)) (S.laid (.lst (xs ++ ys)) np) (.lst upd_same ((ra.append rb).up (same_upd (S.free np))))
    · exact h.elim
  · exact h.elim
/-- an operation that makes a new list -/
def OpO (K : PySem.W.Frag) (mg : Str → Option Value) (r : R2) (f : D → D → Option (List D)) : Prop :=
  ∀ Z W C H Hf σ ρ x y v u Q, Sm K mg Z C H Hf σ ρ → Rp K mg Hf x v → Rp K mg Hf y u → Post K mg Z W C σ Hf (RO K mg C σ) Q (lift (f x y) ρ) → r v u H Q
def oOp (f : D → D → Option (List D)) (a b : ED) : AD := fun ρ => (a ρ).bind fun p => (b p.2).bind fun q => lift (f p.1 q.1) q.2
theorem w_opO {W : WX} {r : R2} {f : D → D → Option (List D)} {ta tb : TE} {da db : ED} (o : OpO K mg r f) (ha : WE K mg W ta da) (hb : WE K mg W tb db) : WO K mg W (tOp r ta tb) (oOp f da db) :=
  ⟨fun Z C H Hf σ ρ Q S h => ha.run Z C H Hf σ ρ _ S (Post.bind h fun x ρ1 v H1 Hf1 s1 S1 rx h1 =>
    hb.run Z C H1 Hf1 σ ρ1 _ S1 (Post.bind h1 fun y ρ2 u H2 Hf2 s2 S2 ry h2 => o Z W C H2 Hf2 σ ρ2 x y v u Q S2 (rx.up s2) ry h2))⟩
theorem newL {W : WX} {Z : Addr} {C : Hp} {σ : Sl} {ρ : Rho} {Q : VK} {l : List D} {vs : List V} (S : Sm K mg Z C H Hf σ ρ) (h : Post K mg Z W C σ Hf (RO K mg C σ) Q (.ok (l, ρ))) (r : RpA K mg Hf l vs) {p : Addr} (np : H p = none) : Q (.ref p) (upd H p (.lst vs)) :=
  h _ _ _ (Same.refl _) (S.laid0 (.lst vs) np) ⟨p, vs, rfl, upd_same, S.free np, S.freeC np, NoOw.of S np, r⟩
theorem newT {W : WX} {Z : Addr} {C : Hp} {σ : Sl} {ρ : Rho} {Q : VK} {l : List D} {vs : List V} (S : Sm K mg Z C H Hf σ ρ) (h : Post K mg Z W C σ Hf (RD K mg) Q (.ok (.tup l, ρ))) (r : RpA K mg Hf l vs) {p : Addr} (np : H p = none) : Q (.ref p) (upd H p (.tup vs)) :=
  h _ _ _ (same_upd (S.free np)) (S.laid (.tup vs) np) (.tup upd_same (r.up (same_upd (S.free np))))
theorem o_catL : OpO K mg rCat catL := fun Z W C H Hf σ ρ x y v u Q S rx ry h => by
  unfold catL at h
  split at h
  · rename_i a b
    split at h
    · rename_i hl
      cases rx with
      | @lst pa xs _ ea ra =>
        cases ry with
        | @lst pb ys _ eb rb => exact ⟨pa, pb, xs, ys, rfl, rfl, S.ff _ _ ea, S.ff _ _ eb, sz_ok (by rw [← ra.length, ← rb.length]; exact hl), fun p np => newL S h (ra.append rb) np⟩
    · exact h.elim
  · exact h.elim
theorem o_repL : OpO K mg rRep repL := fun Z W C H Hf σ ρ x y v u Q S rx ry h => by
  unfold repL at h
  split at h
  · rename_i a k
    split at h
    · rename_i hl
      cases ry
      cases rx with
      | @lst pa xs _ ea ra => exact ⟨pa, k, xs, rfl, rfl, S.ff _ _ ea, by have := hl.1; omega, by have := hl.2.1; omega, sz_ok (by rw [← ra.length]; exact hl.2.2), fun p np => newL S h (ra.rep _) np⟩
    · exact h.elim
  · exact h.elim
theorem o_mod : OpD K mg (rI (fun _ j => 0 < j) fun i j => .int (i % j)) modD := fun Z W C H Hf σ ρ x y v u Q S rx ry h => by
  unfold modD at h
  split at h
  · split at h
    · rename_i hj
      cases rx; cases ry; exact ⟨_, _, rfl, rfl, hj, h.done S (.int _)⟩
    · exact h.elim
  · exact h.elim
theorem o_fdiv : OpD K mg (rI CDiv fun i j => .int (i / j)) fdivD := fun Z W C H Hf σ ρ x y v u Q S rx ry h => by
  unfold fdivD at h
  split at h
  · split at h
    · rename_i hj
      cases rx; cases ry; exact ⟨_, _, rfl, rfl, hj, h.done S (.int _)⟩
    · exact h.elim
  · exact h.elim
theorem o_pow : OpD K mg (rI CPow fun i j => .int (i ^ j.toNat)) powD := fun Z W C H Hf σ ρ x y v u Q S rx ry h => by
  unfold powD at h
  split at h
  · split at h
    · rename_i hj
      cases rx; cases ry; exact ⟨_, _, rfl, rfl, hj, h.done S (.int _)⟩
    · exact h.elim
  · exact h.elim
theorem o_neg : UnD K mg (rU fun i => .int (-i)) negD := fun Z W C H Hf σ ρ x v Q S rx h => by
  unfold negD at h
  split at h
  · cases rx; exact ⟨_, rfl, h.done S (.int _)⟩
  · exact h.elim
theorem o_eq : OpD K mg (rEqD K) eqD := fun Z W C H Hf σ ρ x y v u Q S rx ry h => by
  unfold eqD at h
  split at h
  · rename_i a b qa qb
    split at h
    · rename_i hd
      exact ⟨a, b, dp_of S.ff x v a qa rx, dp_of S.ff y u b qb ry, by unfold SeqAt.shaped; rw [lay_of x a qa, decide_eq_true hd.1] <;> rfl, by unfold SeqAt.shaped; rw [lay_of y b qb, decide_eq_true hd.2] <;> rfl, h.done S (.bl _)⟩
    · exact h.elim
  · exact h.elim
theorem o_ne : OpD K mg (rNeD K) neD := fun Z W C H Hf σ ρ x y v u Q S rx ry h => by
  unfold neD at h
  split at h
  · rename_i a b qa qb
    split at h
    · rename_i hd
      exact ⟨a, b, dp_of S.ff x v a qa rx, dp_of S.ff y u b qb ry, by unfold SeqAt.shaped; rw [lay_of x a qa, decide_eq_true hd.1] <;> rfl, by unfold SeqAt.shaped; rw [lay_of y b qb, decide_eq_true hd.2] <;> rfl, h.done S (.bl _)⟩
    · exact h.elim
  · exact h.elim
theorem o_isN : OpD K mg (fun x y H Q => y = .non ∧ Q (.bl (decide (x = .non))) H) isN := fun Z W C H Hf σ ρ x y v u Q S rx ry h => by
  unfold isN at h
  split at h
  · cases ry
    refine ⟨rfl, ?_⟩
    cases x <;> cases rx <;> exact h.done S (.bl _)
  · exact h.elim
theorem o_notN : OpD K mg (fun x y H Q => y = .non ∧ Q (.bl (!decide (x = .non))) H) notN := fun Z W C H Hf σ ρ x y v u Q S rx ry h => by
  unfold notN at h
  split at h
  · cases ry
    refine ⟨rfl, ?_⟩
    cases x <;> cases rx <;> exact h.done S (.bl _)
  · exact h.elim
end
end DL

set_option Elab.async false
set_option linter.all false
set_option maxRecDepth 100000
set_option maxHeartbeats 2000000
/-! DL7: more operations on data: in, items, slices, built-ins -/
namespace DL
open PySem PySem.Spec PyProof.Rows L2
section
variable {K : PySem.W.Frag} {mg : Str → Option Value} {H Hf : Hp} {W : WX}
theorem inD'_rp {x : D} {l : List D} {b : Bool} {v : V} {vs : List V} (h : inD' x l = some b) (rx : Rp K mg Hf x v) (r : RpA K mg Hf l vs) : flatV v = true ∧ vs.all flatV = true ∧ inV v vs = b := by
  unfold inD' at h
  split at h
  · rename_i u us q1 q2
    cases h
    obtain ⟨rfl, a⟩ := flatD_rp q1 rx
    obtain ⟨rfl, c⟩ := flats_rp q2 r
    exact ⟨a, c, rfl⟩
  · cases h
theorem o_in : OpD K mg (rIn K false) inD := fun Z W C H Hf σ ρ x y v u Q S rx ry h => by
  unfold inD at h
  split at h
  · rename_i l
    cases ry with
    | @tup a xs _ e r =>
      cases q : inD' x l with
      | none => rw [q] at h; exact h.elim
      | some b =>
        rw [q] at h
        obtain ⟨h1, h2, rfl⟩ := inD'_rp q rx r
        exact ⟨a, xs, rfl, .inr (tq S.ff e), h1, h2, h.done S (.bl _)⟩
  · rename_i l
    cases ry with
    | @lst a xs _ e r =>
      cases q : inD' x l with
      | none => rw [q] at h; exact h.elim
      | some b =>
        rw [q] at h
        obtain ⟨h1, h2, rfl⟩ := inD'_rp q rx r
        exact ⟨a, xs, rfl, .inl (.inl (.inl (S.ff _ _ e))), h1, h2, h.done S (.bl _)⟩
  · exact h.elim
theorem o_nin : OpD K mg (rIn K true) ninD := fun Z W C H Hf σ ρ x y v u Q S rx ry h => by
  unfold ninD at h
  split at h
  · rename_i l
    cases ry with
    | @tup a xs _ e r =>
      cases q : inD' x l with
      | none => rw [q] at h; exact h.elim
      | some b =>
        rw [q] at h
        obtain ⟨h1, h2, rfl⟩ := inD'_rp q rx r
        exact ⟨a, xs, rfl, .inr (tq S.ff e), h1, h2, h.done S (.bl _)⟩
  · rename_i l
    cases ry with
    | @lst a xs _ e r =>
      cases q : inD' x l with
      | none => rw [q] at h; exact h.elim
      | some b =>
        rw [q] at h
        obtain ⟨h1, h2, rfl⟩ := inD'_rp q rx r
        exact ⟨a, xs, rfl, .inl (.inl (.inl (S.ff _ _ e))), h1, h2, h.done S (.bl _)⟩
  · exact h.elim
theorem atI_rp {l : List D} {vs : List V} {i : Int} {d : D} (r : RpA K mg Hf l vs) (e : atI l i = some d) : ∃ v, atI vs i = some v ∧ Rp K mg Hf d v := by
  unfold atI at e ⊢
  rw [r.length] at e
  cases q : ixN vs.length i with
  | none => rw [q] at e; cases e
  | some j =>
    rw [q] at e
    exact r.get e
theorem o_idx : OpD K mg (rIx K) idxD := fun Z W C H Hf σ ρ x y v u Q S rx ry h => by
  unfold idxD at h
  split at h
  · rename_i l i
    cases ry
    cases rx with
    | @lst a xs _ e r =>
      cases q : atI l i with
      | none => rw [q] at h; exact h.elim
      | some d =>
        rw [q] at h
        obtain ⟨v, e2, r2⟩ := atI_rp r q
        exact .inl ⟨a, xs, i, v, rfl, rfl, .inl (.inl (S.ff _ _ e)), e2, h.done S r2⟩
  · rename_i l i
    cases ry
    cases rx with
    | @tup a xs _ e r =>
      cases q : atI l i with
      | none => rw [q] at h; exact h.elim
      | some d =>
        rw [q] at h
        obtain ⟨v, e2, r2⟩ := atI_rp r q
        exact .inr (.inl ⟨a, xs, i, v, rfl, rfl, tq S.ff e, e2, h.done S r2⟩)
  · rename_i l i
    cases ry
    cases rx with
    | @scr a _ e =>
      cases q : atI l i with
      | none => rw [q] at h; exact h.elim
      | some d =>
        rw [q] at h
        have e2 : atI (l.map V.int) i = some (.int d) := by
          unfold atI at q ⊢
          rw [List.length_map]
          cases q2 : ixN l.length i with
          | none => rw [q2] at q; cases q
          | some j => rw [q2] at q; show (l.map V.int)[j]? = _; rw [List.getElem?_map]; rw [show l[j]? = some d from q]; rfl
        exact .inl ⟨a, _, i, _, rfl, rfl, S.ff.seq e, e2, h.done S (.int _)⟩
  · exact h.elim
/-! slices -/
abbrev OD := Rho → Res (Option Int × Rho)
abbrev RP : Hp → Hp → Rho → Option Int → Option Int → Prop := fun _ _ _ a b => a = b
structure WP (K : PySem.W.Frag) (mg : Str → Option Value) (W : WX) (t : TO) (d : OD) : Prop where
  run : ∀ Z C H Hf σ ρ Q, Sm K mg Z C H Hf σ ρ → Post K mg Z W C σ Hf RP Q (d ρ) → t σ H Q
def pNo : OD := fun ρ => .ok (none, ρ)
def pSome (e : ED) : OD := fun ρ => (e ρ).bind fun p => match p.1 with
  | .int i => .ok (some i, p.2)
  | _ => .bad
theorem p_no : WP K mg W tNoPart pNo := ⟨fun Z C H Hf σ ρ Q S h => h.done S rfl⟩
theorem p_some {t : TE} {d : ED} (h : WE K mg W t d) : WP K mg W (tPart t) (pSome d) := ⟨fun Z C H Hf σ ρ Q S hp => h.run Z C H Hf σ ρ _ S (Post.bind hp fun x ρ1 v H1 Hf1 s1 S1 r h1 => by
  cases x with
  | int i => cases r; exact ⟨i, rfl, h1.done S1 rfl⟩
  | _ => exact h1.elim)⟩
def rSlU (K : PySem.W.Frag) : V → Option Int → Option Int → Hp → VK → Prop := fun x lo hi H Q => rSlA K x lo hi H Q ∨ rSlL K x lo hi H Q
theorem slU {X : Cx} : SlR X (rSlU X.K) := sl_tupA.or sl_list
def slD (lo hi : Option Int) : D → Option D
  | .tup l => some (.tup (cutD l lo hi))
  | .lst l => some (.lst (cutD l lo hi))
  | .scr l => some (.lst (cutD (iL l) lo hi))
  | _ => none
def dSl (a : ED) (lo hi : OD) : ED := fun ρ => (a ρ).bind fun p => (lo p.2).bind fun q => (hi q.2).bind fun r => lift (slD q.1 r.1 p.1) r.2
theorem RpA.cut {l : List D} {vs : List V} (r : RpA K mg Hf l vs) (lo hi : Option Int) : RpA K mg Hf (cutD l lo hi) (cutV vs lo hi) := by
  unfold cutD cutV
  rw [r.length]
  exact (r.drop _).take _
theorem w_sl {te : TE} {tl th : TO} {de : ED} {dl dh : OD} (he : WE K mg W te de) (hl : WP K mg W tl dl) (hh : WP K mg W th dh) : WE K mg W (tSl (rSlU K) te tl th) (dSl de dl dh) :=
  ⟨fun Z C H Hf σ ρ Q S h => he.run Z C H Hf σ ρ _ S (Post.bind h fun x ρ1 v H1 Hf1 s1 S1 rx h1 =>
    hl.run Z C H1 Hf1 σ ρ1 _ S1 (Post.bind h1 fun lo ρ2 lo' H2 Hf2 s2 S2 e2 h2 => hh.run Z C H2 Hf2 σ ρ2 _ S2 (Post.bind h2 fun hi ρ3 hi' H3 Hf3 s3 S3 e3 h3 => by
      cases e2
      cases e3
      dsimp only at h3
      unfold slD at h3
      have rx3 := rx.up (s2.trans s3)
      split at h3
      · rename_i l
        cases rx3 with
        | @tup a xs _ e r =>
          refine .inl ⟨a, xs, rfl, tq S3.ff e, fun hw => ?_, fun hw p np => newT S3 h3 (r.cut lo hi) np⟩
          have : cutD l lo hi = l := by
            unfold cutD
            rw [r.length, hw.1, hw.2, List.drop_zero, Nat.sub_zero, ← r.length, List.take_length]
          rw [this] at h3
          exact h3.done S3 (.tup e r)
      · rename_i l
        cases rx3 with
        | @lst a xs _ e r =>
          refine .inr ⟨a, xs, rfl, .inl (.inl (S3.ff _ _ e)), fun p np => ?_⟩
          exact h3 _ _ _ (same_upd (S3.free np)) (S3.laid (.lst (cutV xs lo hi)) np) (.lst upd_same ((r.cut lo hi).up (same_upd (S3.free np))))
      · rename_i l
        cases rx3 with
        | @scr a _ e =>
          refine .inr ⟨a, _, rfl, S3.ff.seq e, fun p np => ?_⟩
          exact h3 _ _ _ (same_upd (S3.free np)) (S3.laid (.lst (cutV (l.map V.int) lo hi)) np) (.lst upd_same (((RpA.of_iL l).cut lo hi).up (same_upd (S3.free np))))
      · exact h3.elim)))⟩
/-! built-ins -/
theorem c_len : CbD K mg (fun xs H Q => ∃ x n, xs = [x] ∧ LenV K x H n ∧ Q (.int n) H) lenD := fun Z W C H Hf σ ρ xs vs Q S r h => by
  unfold lenD at h
  split at h
  · cases r with
    | cons r1 r2 =>
      cases r2
      cases r1 with
      | @lst a ys _ e ra => exact ⟨.ref a, ys.length, rfl, .inl ⟨ys, .inl (.inl (S.ff _ _ e)), rfl⟩, by rw [← ra.length]; exact h.done S (.int _)⟩
  · cases r with
    | cons r1 r2 =>
      cases r2
      cases r1 with
      | @tup a ys _ e ra => exact ⟨.ref a, ys.length, rfl, .inr ⟨ys, tq S.ff e, rfl⟩, by rw [← ra.length]; exact h.done S (.int _)⟩
  · rename_i l
    cases r with
    | cons r1 r2 =>
      cases r2
      cases r1 with
      | @scr a _ e => exact ⟨.ref a, l.length, rfl, .inl ⟨_, S.ff.seq e, by rw [List.length_map]⟩, h.done S (.int _)⟩
  · exact h.elim
theorem c_abs : CbD K mg (fun xs H Q => ∃ i, xs = [.int i] ∧ Q (.int (if i < 0 then -i else i)) H) absD := fun Z W C H Hf σ ρ xs vs Q S r h => by
  unfold absD at h
  split at h
  · cases r with
    | cons r1 r2 => cases r2; cases r1; exact ⟨_, rfl, h.done S (.int _)⟩
  · exact h.elim
theorem c_int : CbD K mg (fun xs H Q => (∃ i, xs = [.int i] ∧ Q (.int i) H) ∨ ∃ k, xs = [.bl k] ∧ Q (.int (if k then 1 else 0)) H) intD := fun Z W C H Hf σ ρ xs vs Q S r h => by
  unfold intD at h
  split at h
  · cases r with
    | cons r1 r2 => cases r2; cases r1; exact .inl ⟨_, rfl, h.done S (.int _)⟩
  · cases r with
    | cons r1 r2 => cases r2; cases r1; exact .inr ⟨_, rfl, h.done S (.int _)⟩
  · exact h.elim
theorem c_max2 : CbD K mg (fun xs H Q => ∃ i j, xs = [.int i, .int j] ∧ Q (.int (if j > i then j else i)) H) max2 := fun Z W C H Hf σ ρ xs vs Q S r h => by
  unfold max2 at h
  split at h
  · cases r with
    | cons r1 r2 =>
      cases r2 with
      | cons r2 r3 => cases r3; cases r1; cases r2; exact ⟨_, _, rfl, h.done S (.int _)⟩
  · exact h.elim
theorem c_min2 : CbD K mg (fun xs H Q => ∃ i j, xs = [.int i, .int j] ∧ Q (.int (if j < i then j else i)) H) min2 := fun Z W C H Hf σ ρ xs vs Q S r h => by
  unfold min2 at h
  split at h
  · cases r with
    | cons r1 r2 =>
      cases r2 with
      | cons r2 r3 => cases r3; cases r1; cases r2; exact ⟨_, _, rfl, h.done S (.int _)⟩
  · exact h.elim
theorem c_sum : CbD K mg (rSum K) sumD := fun Z W C H Hf σ ρ xs vs Q S r h => by
  unfold sumD at h
  split at h
  · rename_i l
    cases r with
    | cons r1 r2 =>
      cases r2
      cases r1 with
      | @lst a ys _ e ra =>
        cases q : unI l with
        | none => rw [q] at h; exact h.elim
        | some ns =>
          rw [q] at h
          have := unI_rp q ra
          subst this
          exact ⟨a, ns, rfl, .inl (.inl (S.ff _ _ e)), h.done S (.int _)⟩
  · exact h.elim
theorem fold_max : ∀ (l : List Int) (a : Int), (l.foldl max a = a ∨ l.foldl max a ∈ l) ∧ a ≤ l.foldl max a ∧ ∀ x ∈ l, x ≤ l.foldl max a
  | [], a => ⟨.inl rfl, Int.le_refl _, fun x h => by cases h⟩
  | y :: l, a => by
    obtain ⟨h1, h2, h3⟩ := fold_max l (max a y)
    refine ⟨?_, ?_, fun x hx => ?_⟩
    · rw [List.foldl_cons]
      rcases h1 with h1 | h1
      · rw [h1]
        by_cases hh : a ≤ y
        · right; rw [Int.max_eq_right hh]; exact List.mem_cons_self
        · left; rw [Int.max_eq_left (by omega)]
      · exact .inr (List.mem_cons_of_mem _ h1)
    · rw [List.foldl_cons]; omega
    · rw [List.foldl_cons]
      rcases List.mem_cons.mp hx with rfl | hx
      · omega
      · exact h3 x hx
theorem fold_min : ∀ (l : List Int) (a : Int), (l.foldl min a = a ∨ l.foldl min a ∈ l) ∧ l.foldl min a ≤ a ∧ ∀ x ∈ l, l.foldl min a ≤ x
  | [], a => ⟨.inl rfl, Int.le_refl _, fun x h => by cases h⟩
  | y :: l, a => by
    obtain ⟨h1, h2, h3⟩ := fold_min l (min a y)
    refine ⟨?_, ?_, fun x hx => ?_⟩
    · rw [List.foldl_cons]
      rcases h1 with h1 | h1
      · rw [h1]
        by_cases hh : a ≤ y
        · left; rw [Int.min_eq_left hh]
        · right; rw [Int.min_eq_right (by omega)]; exact List.mem_cons_self
      · exact .inr (List.mem_cons_of_mem _ h1)
    · rw [List.foldl_cons]; omega
    · rw [List.foldl_cons]
      rcases List.mem_cons.mp hx with rfl | hx
      · omega
      · exact h3 x hx
theorem mxI_spec {l : List Int} (h : 0 < l.length) : mxI l ∈ l ∧ ∀ x ∈ l, x ≤ mxI l := by
  cases l with
  | nil => cases h
  | cons a l =>
    obtain ⟨h1, h2, h3⟩ := fold_max (a :: l) a
    exact ⟨h1.elim (fun e => by show List.foldl max a (a :: l) ∈ _; rw [e]; exact List.mem_cons_self) id, h3⟩
theorem mnI_spec {l : List Int} (h : 0 < l.length) : mnI l ∈ l ∧ ∀ x ∈ l, mnI l ≤ x := by
  cases l with
  | nil => cases h
  | cons a l =>
    obtain ⟨h1, h2, h3⟩ := fold_min (a :: l) a
    exact ⟨h1.elim (fun e => by show List.foldl min a (a :: l) ∈ _; rw [e]; exact List.mem_cons_self) id, h3⟩
theorem c_maxL : CbD K mg (rMax K) maxL := fun Z W C H Hf σ ρ xs vs Q S r h => by
  unfold maxL at h
  split at h
  · rename_i l
    cases r with
    | cons r1 r2 =>
      cases r2
      cases r1 with
      | @lst a ys _ e ra =>
        cases q : unI l with
        | none => rw [q] at h; exact h.elim
        | some ns =>
          rw [q] at h
          have := unI_rp q ra
          subst this
          by_cases hn : 0 < ns.length
          · have h' : Post K mg Z W C σ Hf (RD K mg) Q (.ok (.int (mxI ns), ρ)) := by
              have := h
              rw [Option.bind_some, if_pos hn] at this
              exact this
            refine ⟨a, ns, rfl, .inl (.inl (S.ff _ _ e)), hn, fun m hm hle => ?_⟩
            obtain ⟨g1, g2⟩ := mxI_spec hn
            have : m = mxI ns := Int.le_antisymm (g2 m hm) (hle _ g1)
            subst this
            exact h'.done S (.int _)
          · rw [Option.bind_some, if_neg hn] at h; exact h.elim
  · exact h.elim
theorem c_minL : CbD K mg (rMin K) minL := fun Z W C H Hf σ ρ xs vs Q S r h => by
  unfold minL at h
  split at h
  · rename_i l
    cases r with
    | cons r1 r2 =>
      cases r2
      cases r1 with
      | @lst a ys _ e ra =>
        cases q : unI l with
        | none => rw [q] at h; exact h.elim
        | some ns =>
          rw [q] at h
          have := unI_rp q ra
          subst this
          by_cases hn : 0 < ns.length
          · have h' : Post K mg Z W C σ Hf (RD K mg) Q (.ok (.int (mnI ns), ρ)) := by
              have := h
              rw [Option.bind_some, if_pos hn] at this
              exact this
            refine ⟨a, ns, rfl, .inl (.inl (S.ff _ _ e)), hn, fun m hm hle => ?_⟩
            obtain ⟨g1, g2⟩ := mnI_spec hn
            have : m = mnI ns := Int.le_antisymm (hle _ g1) (g2 m hm)
            subst this
            exact h'.done S (.int _)
          · rw [Option.bind_some, if_neg hn] at h; exact h.elim
  · exact h.elim
/-- tuple(x) -/
theorem c_tup : CbD K mg (fun xs H Q => ∃ p ys, xs = [.ref p] ∧ ((SqL K H p ys ∧ ∀ l, H l = none → Q (.ref l) (upd H l (.tup ys))) ∨ (SqT K H p ys ∧ Q (.ref p) H))) tupD := fun Z W C H Hf σ ρ xs vs Q S r h => by
  unfold tupD at h
  split at h
  · cases r with
    | cons r1 r2 =>
      cases r2
      cases r1 with
      | @lst a ys _ e ra => exact ⟨a, ys, rfl, .inl ⟨.inl (.inl (S.ff _ _ e)), fun l hl => newT S h ra hl⟩⟩
  · cases r with
    | cons r1 r2 =>
      cases r2
      cases r1 with
      | @tup a ys _ e ra => exact ⟨a, ys, rfl, .inr ⟨tq S.ff e, h.done S (.tup e ra)⟩⟩
  · exact h.elim
/-- list(x) -/
theorem c_list : CoD K mg (fun xs H Q => ∃ p ys, xs = [.ref p] ∧ (SqL K H p ys ∨ SqT K H p ys) ∧ ∀ l, H l = none → Q (.ref l) (upd H l (.lst ys))) listO := fun Z W C H Hf σ ρ xs vs Q S r h => by
  unfold listO at h
  split at h
  · cases r with
    | cons r1 r2 =>
      cases r2
      cases r1 with
      | @lst a ys _ e ra => exact ⟨a, ys, rfl, .inl (.inl (.inl (S.ff _ _ e))), fun l hl => newL S h ra hl⟩
  · cases r with
    | cons r1 r2 =>
      cases r2
      cases r1 with
      | @tup a ys _ e ra => exact ⟨a, ys, rfl, .inr (tq S.ff e), fun l hl => newL S h ra hl⟩
  · rename_i l0
    cases r with
    | cons r1 r2 =>
      cases r2
      cases r1 with
      | @scr a _ e => exact ⟨a, _, rfl, .inl (S.ff.seq e), fun l hl => newL S h (RpA.of_iL l0) hl⟩
  · exact h.elim
theorem le_tr : ∀ (a b c : Int), decide (a ≤ b) = true → decide (b ≤ c) = true → decide (a ≤ c) = true := fun a b c h1 h2 => decide_eq_true (Int.le_trans (of_decide_eq_true h1) (of_decide_eq_true h2))
theorem le_to : ∀ (a b : Int), (decide (a ≤ b) || decide (b ≤ a)) = true := fun a b => by
  rcases Int.le_total a b with h | h
  · rw [decide_eq_true h]; rfl
  · rw [decide_eq_true h, Bool.or_true]
theorem srt_one : ∀ {a b : List Int}, a.Perm b → a.Pairwise (· ≤ ·) → b.Pairwise (· ≤ ·) → a = b
  | [], b, p, _, _ => by rw [List.nil_perm] at p; exact p.symm
  | x :: a, [], p, _, _ => by have := p.length_eq; simp at this
  | x :: a, y :: b, p, h1, h2 => by
    have hx : x ∈ y :: b := p.subset List.mem_cons_self
    have hy : y ∈ x :: a := p.symm.subset List.mem_cons_self
    have l1 : y ≤ x := (List.mem_cons.mp hx).elim (fun e => by omega) fun h => (List.pairwise_cons.mp h2).1 x h
    have l2 : x ≤ y := (List.mem_cons.mp hy).elim (fun e => by omega) fun h => (List.pairwise_cons.mp h1).1 y h
    have e : x = y := Int.le_antisymm l2 l1
    subst e
    have p' : a.Perm b := (List.perm_cons x).mp p
    rw [srt_one p' (List.pairwise_cons.mp h1).2 (List.pairwise_cons.mp h2).2]
theorem srtI_perm (l : List Int) : (srtI l).Perm l := List.mergeSort_perm l _
theorem srtI_up (l : List Int) : (srtI l).Pairwise (· ≤ ·) := (List.pairwise_mergeSort le_tr le_to l).imp fun h => of_decide_eq_true h
theorem c_sorted : CoD K mg (rSortedI K) sortO := fun Z W C H Hf σ ρ xs vs Q S r h => by
  unfold sortO at h
  split at h
  · rename_i l
    cases r with
    | cons r1 r2 =>
      cases r2
      cases r1 with
      | @lst a ys _ e ra =>
        cases q : unI l with
        | none => rw [q] at h; exact h.elim
        | some ns =>
          rw [q] at h
          have := unI_rp q ra
          subst this
          refine ⟨a, ns, rfl, .inl (.inl (S.ff _ _ e)), fun ns' p pm up np => ?_⟩
          have : ns' = srtI ns := srt_one (pm.trans (srtI_perm ns).symm) up (srtI_up ns)
          subst this
          exact newL S h (RpA.of_iL _) np
  · exact h.elim
def tyN : D → Option String
  | .non => some "NoneType" | .bl _ => some "bool" | .int _ => some "int" | .str _ => some "str" | .lst _ => some "list" | .tup _ => some "tuple" | .dic _ => none | .fn _ => none | .scr _ => none
theorem tyN_of {t : Ty} {d : D} {b : Bool} (h : isTy t d = some b) : ∃ c, tyN d = some c ∧ kitB c t.name = some b := by
  have kb : ∀ (a : String) (t : Ty), a ∈ ["NoneType", "bool", "int", "str", "list", "tuple", "dict"] → kitB a t.name = some (decide (a = t.name) || (decide (a = "bool") && decide (t = .int))) := by
    intro a t ha
    simp only [List.mem_cons, List.not_mem_nil, or_false] at ha
    rcases ha with rfl | rfl | rfl | rfl | rfl | rfl | rfl <;> cases t <;> decide +kernel
  cases d with
  | fn x => cases h
  | scr l => cases h
  | dic l => cases h
  | _ => cases h; exact ⟨_, rfl, by rw [kb _ _ (by simp)]; cases t <;> decide⟩
theorem tyN_rp {d : D} {c : String} {v : V} (S : Same Hf H) (h : tyN d = some c) (r : Rp K mg Hf d v) : TyX K H v (.type c) := by
  cases d with
  | non => cases h; cases r; exact .base .non
  | bl x => cases h; cases r; exact .base (.bl x)
  | int i => cases h; cases r; exact .base (.int i)
  | str x => cases h; cases r; exact .base (.str x)
  | lst l =>
    cases h
    cases r with
    | lst e ra => exact .base (.lst (S _ _ e))
  | tup l =>
    cases h
    cases r with
    | tup e ra => exact .base (.tup (S _ _ e))
  | dic l => cases h
  | fn x => cases h
  | scr l => cases h
theorem w_isi1 {t : Ty} {te : TE} {de : ED} (h : WE K mg W te de) : WE K mg W (tCB (rIsi K) (tCons te (tCons (tC (.ty t.name)) tNil))) (dUn (isD1 t) de) :=
  ⟨fun Z C H Hf σ ρ Q S hp => h.run Z C H Hf σ ρ _ S (Post.bind hp fun x ρ1 v H1 Hf1 s1 S1 r h1 => by
    unfold isD1 at h1
    dsimp only at h1
    cases q : isTy t x with
    | none => rw [q] at h1; exact h1.elim
    | some b =>
      rw [q] at h1
      obtain ⟨c, ty, kb⟩ := tyN_of q
      exact ⟨v, .ty t.name, .type c, .type t.name, b, rfl, .ty _, tyN_rp S1.ff ty r, kit_ty kb, h1.done S1 (.bl b)⟩)⟩
theorem w_isi2 {t u : Ty} {te : TE} {de : ED} (h : WE K mg W te de) : WE K mg W (tCB (rIsiT K) (tCons te (tCons (tTup (tCons (tC (.ty t.name)) (tCons (tC (.ty u.name)) tNil))) tNil))) (dUn (isD2 t u) de) :=
  ⟨fun Z C H Hf σ ρ Q S hp => h.run Z C H Hf σ ρ _ S (Post.bind hp fun x ρ1 v H1 Hf1 s1 S1 r h1 => by
    unfold isD2 at h1
    dsimp only at h1
    split at h1
    · rename_i a b q1 q2
      obtain ⟨c, ty, kb⟩ := tyN_of q1
      obtain ⟨c2, ty2, kb2⟩ := tyN_of q2
      have ec : c2 = c := by rw [ty] at ty2; cases ty2; rfl
      subst ec
      refine ⟨by show 2 ≤ sizeLine; rw [sizeLine_eq]; omega, fun p np => ?_⟩
      refine ⟨v, p, [.ty t.name, .ty u.name], .type c2, [.type t.name, .type u.name], a || b, rfl, upd_same, .cons (.ty _) (.cons (.ty _) .nil), tyN_rp (S1.ff.trans (same_upd np)) ty r, ?_, h1 _ _ _ (Same.refl _) (S1.laid0 (.tup [.ty t.name, .ty u.name]) np) (.bl _)⟩
      refine kitAny_cons (kit_ty kb) (fun ea => ?_) (fun ea => by rw [ea]; rfl)
      subst ea
      refine kitAny_cons (r := b) (kit_ty kb2) (fun eb => ?_) (fun eb => eb)
      rw [eb]; exact kitAny_nil
    · exact h1.elim)⟩
end
end DL

set_option Elab.async false
set_option linter.all false
set_option maxRecDepth 100000
set_option maxHeartbeats 4000000
/-! DL8: what is walked, by data; further rules of the machine -/
namespace DL
open PySem PySem.Spec PyProof.Rows L2

/-! ### a list or a tuple walked -/
def iSq (K : PySem.W.Frag) (tl : TE) : TI := fun σ H R => tl σ H fun x H1 => ∃ a, x = .ref a ∧ (((∃ xs, SqL K H1 a xs) ∧ R (Itl K a) H1) ∨ ((∃ xs, SqT K H1 a xs) ∧ R (Itt K a) H1))
theorem pi_sq {X : Cx} {tg l : Expr} {tl : TE} (hl : PE X l tl) : PI X tg l (iSq X.K tl) := by
  refine ⟨fun pins s σ H R I h => thn (hl.run pins s σ H _ I h) fun v s1 hh => ?_⟩
  obtain ⟨x, H1, I1, r1, a, rfl, q1⟩ := hh
  cases r1
  have fp : ∀ b ∈ [s1.heap.objs.size], FpOk X pins H1 b := fun b hb => by
    have : b = s1.heap.objs.size := by simpa using hb
    rw [this]
    exact I1.fpOk (Nat.le_refl _) (I1.hok.fresh (Nat.le_refl _))
  rcases q1 with ⟨⟨xs, hq⟩, q⟩ | ⟨⟨xs, hq⟩, q⟩
  · obtain ⟨its, rv, p, _⟩ := I1.list hq
    exact wpAny_pyIter_list p.isList ⟨_, [_], _, _, H1, rfl, I1.kept (t' := s1.toks) fun b o e => Heap.get?_push_of_some _ e, turn_list a _, ⟨_, Heap.get?_push_size _ rfl, rfl, rfl⟩, fp, q⟩
  · obtain ⟨its, rv, p, _⟩ := I1.tuple hq
    exact wpAny_pyIter_tuple (show s1.heap.IsTuple a its.toArray from p) ⟨_, [_], _, _, H1, rfl, I1.kept (t' := s1.toks) fun b o e => Heap.get?_push_of_some _ e, turn_tuple a _, ⟨_, Heap.get?_push_size _ rfl, rfl, rfl⟩, fp, q⟩
/-! ### enumerate(tuple) -/
theorem en_new {v : Value} {o : Obj} {G : Heap → Prop} (B : Begins v o G) :
    Meets (Builtin.«enumerate.__new__» ⟨[.type "enumerate", v], []⟩) (fun _ R s => G s.heap ∧
      R (.ok (.ret (.ref (s.heap.push o).objs.size))) { s with heap := (s.heap.push o).push { cls := .type "enumerate", data := .fields #[.none, .bool false, .ref s.heap.objs.size, rawInt 0, .none, .none] } }) :=
  .of_wp fun prog w A R s h => by
    obtain ⟨hp, g, d, tk, os⟩ := s
    obtain ⟨h1, h⟩ := h
    have su := sub_enumerate
    have q1 : ∀ {A' : Around} {E : Value → Shared → Prop} {Q : Value → Shared → Prop}, Q (.ref hp.objs.size) ⟨hp.push o, g, d, tk, os⟩ → wpAny (model prog w) A' (pyIter v) Q E ⟨hp, g, d, tk, os⟩ :=
      fun q => B.iter prog w _ _ ⟨hp, g, d, tk, os⟩ _ h1 q
    wp_walk using q1
    refine wpAny_stack_any fun st => wpAny_pure ?_
    split
    · rename_i c _ _ _ _ _
      cases (c == Value.type "enumerate") <;> (wp_walk using q1; exact ⟨_, rfl, h⟩)
    · wp_walk using q1
      exact ⟨_, rfl, h⟩
theorem en_call {prog : Program} {w : World} {A : Around} {E : Value → Shared → Prop} {s : Shared} {v : Value} {o : Obj} {G : Heap → Prop} {Q : Value → Shared → Prop} (B : Begins v o G) (h1 : G s.heap)
    (h : ∀ h', IsEnum h' (s.heap.objs.size + 1) s.heap.objs.size 0 .none → h'.get? s.heap.objs.size = some o → (∀ b u, s.heap.get? b = some u → h'.get? b = some u) → Q (.ref (s.heap.objs.size + 1)) { s with heap := h' }) :
    wpAny (model prog w) A (call (.type "enumerate") [v]) Q E s := by
  refine callType_new F.called_enumerate (by decide) (F.typeCall_enumerate_1 _) (F.newCall_enumerate_1 _) (fun obj => F.args_object_init_2 obj _) F.entry_enumerate_new (en_new B) ⟨h1, ?_⟩
  have hz : (s.heap.push o).objs.size = s.heap.objs.size + 1 := Heap.size_push ..
  show _ ∧ _
  rw [hz]
  have he : IsEnum ((s.heap.push o).push { cls := .type "enumerate", data := .fields #[.none, .bool false, .ref s.heap.objs.size, rawInt 0, .none, .none] }) (s.heap.objs.size + 1) s.heap.objs.size 0 .none := by
    have z := Heap.get?_push_size (s.heap.push o) (o := { cls := .type "enumerate", data := .fields #[.none, .bool false, .ref s.heap.objs.size, rawInt 0, .none, .none] }) rfl
    rw [hz] at z
    exact z
  have ho : (s.heap.push o).get? s.heap.objs.size = some o := Heap.get?_push_size _ B.free
  exact ⟨⟨_, he, rfl⟩, h _ he (Heap.get?_push_of_some _ ho) fun b u x => Heap.get?_push_of_some _ (Heap.get?_push_of_some _ x)⟩
theorem en_end {prog : Program} {w : World} {A : Around} {s : Shared} {E : Value → Shared → Prop} {e it a : Addr} {i : Nat} {c : Int} {items : Array Value} {old : Value} {Q : Option Value → Shared → Prop} (hh : A.handled = none)
    (he : IsEnum s.heap e it c old) (hit : s.heap.IsTupleIter it a i) (hl : s.heap.IsTuple a items) (hx : items[i]? = none) (hQ : ∀ h', Heap.ExtBut it s.heap h' → Q none { s with heap := h' }) : wpAny (model prog w) A (pyNext (.ref e)) Q E s := by
  have hT : s.TypeIs (.ref e) "enumerate" := ⟨_, he, rfl⟩
  unfold pyNext
  refine wpAny_bind (wpAny_attempt (wpAny_callSpecial?_slot (name := Str.ofString "__next__") hT F.slot_enumerate_next
    (wpAny_call_entry F.slot_enumerate_next hT F.entry_enumerate_next ?_ (F.args_enumerate_next_1 _))))
  show wpAny _ _ (field (.ref e) 2 >>= _) _ _ _
  refine wpAny_bind (wpAny_field he rfl (x := .ref it) rfl ?_)
  refine wpAny_bind (wpAny_nextOf_tuple_end (show A.in1.handled = none from hh) hit hl hx fun h' x he' hx' => ?_)
  obtain ⟨o, ho, hc⟩ := hx'
  exact wpAny_bind (wpAny_isInstance (T := "StopIteration") (b := true) ⟨o, ho, hc⟩ isSubtype_stop (wpAny_pure (hQ _ he')))
/-- the tuple at a, each item in a new pair -/
def IteT (K : PySem.W.Frag) (a : Addr) : It :=
  ⟨fun i H => ∃ (xs : List V) (x : V), SqT K H a xs ∧ xs[i]? = some x, fun i H v H' => ∃ T x, v = .ref T ∧ H T = none ∧ H' = upd H T (.tup [.int (i : Nat), x]) ∧ ∀ xs, SqT K H a xs → xs[i]? = some x, fun i H => ∃ xs : List V, SqT K H a xs ∧ xs.length ≤ i⟩
theorem turn_enT {P : Program} {w : World} {K : PySem.W.Frag} {elts : List Expr} {kk : Nat} {tpos : Pos} (a e it : Addr) :
    Turn P w K (.Tuple elts kk tpos) (IteT K a) [e, it] e (fun i h => (∃ old, IsEnum h e it ((i : Nat) : Int) old) ∧ h.IsTupleIter it a i ∧ e ≠ it) where
  mem := by simp
  obj := fun i h st b hb => by
    obtain ⟨⟨old, he⟩, ⟨o, ho, _, hd⟩, _⟩ := st
    rcases (show b = e ∨ b = it by simpa using hb) with z | z
    · subst z; exact ⟨_, he, fun v q => nomatch q⟩
    · subst z; exact ⟨o, ho, fun v q => by rw [hd] at q; cases q⟩
  keep := fun i h h' st k => let ⟨⟨old, he⟩, hi, hne⟩ := st; ⟨⟨old, k e (by simp) _ he⟩, hi.at fun o q => k it (by simp) o q, hne⟩
  item := by
    intro X hP hw hK hc i pins s σ H E I hf st hg
    subst hP hw hK
    obtain ⟨⟨old, he⟩, hit, hne⟩ := st
    obtain ⟨xs, x, hq, hx⟩ := hg
    obtain ⟨its, rv, p, _⟩ := I.tuple hq
    obtain ⟨u, hu, ru⟩ := rv.get hx
    have p' : s.heap.IsTuple a its.toArray := p
    obtain ⟨oa, hoa, hca, _⟩ := id p'
    have nai : a ≠ it := fun z => by
      obtain ⟨o, ho, hcl, _⟩ := id hit
      rw [← z, hoa] at ho
      cases ho
      rw [hca] at hcl
      exact absurd (Value.type.inj hcl) (by decide)
    have nae : e ∉ [it, a] := fun z => by
      rcases (show e = it ∨ e = a by simpa using z) with z | z
      · exact hne z
      · have he2 : s.heap.get? e = some { cls := .type "enumerate", dict := none, data := .fields #[.none, .bool false, .ref it, rawInt ((i : Nat) : Int), .none, old], slots := #[] } := he
        rw [z, hoa] at he2
        rw [Option.some.inj he2] at hca
        exact absurd (Value.type.inj hca) (by decide)
    have hlt : i < its.toArray.size := by
      have := (List.getElem?_eq_some_iff.mp hu).1
      simpa using this
    have hel : e < s.heap.objs.size := Heap.lt_size he
    have hil : it < s.heap.objs.size := by obtain ⟨_, q, _⟩ := hit; exact Heap.lt_size q
    refine wpAny_pyNext_enum_itemD (Draws.tuple (A := X.A.in1) (show X.A.in1.handled = none from I.ok.hd hc) it a nai its.toArray) he ⟨hit, p'⟩ hlt hne nae fun y h' tk hy ho hit' hT hsz hk => ?_
    have ey : y = u := by
      have : its[i]? = some y := by simpa using hy
      rw [hu] at this
      exact (Option.some.inj this).symm
    subst ey
    refine ⟨_, rfl, wpAny_letOwnedTupleGo_enum (s := { s with heap := h', toks := tk + 1 }) ho fun h'' he' sb => ?_⟩
    have hT2 : h''.get? s.heap.objs.size = some { cls := .type "tuple", data := .seq #[.int i tk, y] } := (sb.2 _ (Nat.ne_of_gt hel)).trans hT
    have new : ObjOk X.prog X.w (upd H s.heap.objs.size (.tup [.int (i : Nat), x])) h'' s.heap.objs.size (.tup [.int (i : Nat), x]) :=
      ⟨by rw [sizeLine_eq]; exact (by decide : 2 ≤ 16777216), [.int i tk, y], .cons ⟨_, rfl⟩ (.cons ru .nil), ⟨_, hT2, rfl, _, rfl⟩⟩
    have I1 := I.turnedNew (t' := tk + 1) (ch := [e, it]) (fun b ob hb q => (sb.2 b (fun z => hb (by simp [z]))).trans (hk b ob (fun z => hb (by simp [z])) (fun z => hb (by simp [z])) q)) hf (Nat.le_refl _) new
    refine ⟨.ref s.heap.objs.size, _, I1, rfl, ⟨_, x, rfl, I.hok.fresh (Nat.le_refl _), rfl, fun ys hy => by rw [I.tuple_inj hy hq]; exact hx⟩, ⟨⟨y, ?_⟩, hit'.1.at fun o q => (sb.2 it (Ne.symm hne)).trans q, hne⟩, fun b hb => ?_⟩
    · rw [show ((i + 1 : Nat) : Int) = (i : Int) + 1 by omega]; exact he'
    · have hb' : b < s.heap.objs.size := (show b = e ∨ b = it by simpa using hb).elim (fun z => z ▸ hel) fun z => z ▸ hil
      rw [upd_ne (Nat.ne_of_lt hb')]
      exact (hf b hb).1
  done := by
    intro X hP hw hK hc i pins s σ H E I hf st hg
    subst hP hw hK
    obtain ⟨⟨old, he⟩, hit, hne⟩ := st
    obtain ⟨xs, hq, hx⟩ := hg
    obtain ⟨its, rv, p, _⟩ := I.tuple hq
    have p' : s.heap.IsTuple a its.toArray := p
    obtain ⟨oa, hoa, hca, _⟩ := id p'
    have nai : a ≠ it := fun z => by
      obtain ⟨o, ho, hcl, _⟩ := id hit
      rw [← z, hoa] at ho
      cases ho
      rw [hca] at hcl
      exact absurd (Value.type.inj hcl) (by decide)
    obtain ⟨f0, f1, f2, f3, f4, f5⟩ := hf it (by simp)
    have hl := rv.length
    -- the end, whatever the place behind it
    refine en_end (I.ok.hd hc) he hit p' (by simp; omega) fun h' eb => ⟨rfl, I.turned (t' := s.toks) (fun b o hb q => eb b o hb q) f0 f1 f3 f4 f5⟩
  self := fun A i s Q E st h => let ⟨⟨_, he⟩, _⟩ := st; wpAny_pyIter_enum he h
end DL

set_option Elab.async false
set_option linter.all false
set_option maxRecDepth 100000
set_option maxHeartbeats 4000000
/-! DL9: iterables by data -/
namespace DL
open PySem PySem.Spec PyProof.Rows L2

def iEnA (K : PySem.W.Frag) (ta : TA) : TI := fun σ H R => ta σ H fun vs H1 => ∃ a, vs = [.ref a] ∧ ((∃ xs, SqL K H1 a xs ∧ R (Ite K a) H1) ∨ (∃ xs, SqT K H1 a xs ∧ R (IteT K a) H1))
theorem pi_enA {X : Cx} {e : Expr} {ta : TA} {p pos tpos : Pos} {elts : List Expr} {kk : Nat} (hg : Gl X "enumerate") (hm : X.mg "enumerate" = none) (ha : PA X [e] ta) (hs : starEach [e] X.env = [(false, eval e X.env)] := by rfl) :
    PI X (.Tuple elts kk tpos) (.Call (.Name "enumerate" p) [e] [] pos) (iEnA X.K ta) := by
  refine ⟨fun pins s σ H R I h => Call_ (ld_blt I hg hm boot_enumerate (PyProof.Rows.callWith_type1 (thn (ha.run pos pins s σ H _ I h) fun us s1 hh => ?_) hs rfl))⟩
  obtain ⟨vs, H1, I1, r1, a, rfl, q1⟩ := hh
  cases r1 with
  | cons r rr =>
    cases rr
    cases r
    have fp : ∀ b ∈ [s1.heap.objs.size + 1, s1.heap.objs.size], FpOk X pins H1 b := fun b hb => by
      have hle : s1.heap.objs.size ≤ b := by
        rcases (show b = s1.heap.objs.size + 1 ∨ b = s1.heap.objs.size by simpa using hb) with z | z <;> omega
      exact I1.fpOk hle (I1.hok.fresh hle)
    rcases q1 with ⟨xs, hq, q⟩ | ⟨xs, hq, q⟩
    · obtain ⟨its, rv, p', _⟩ := I1.list hq
      refine en_call (begins_list a its.toArray) p'.isList fun h' he ho hk => wpAny_pyIter_enum he ?_
      exact ⟨s1.heap.objs.size + 1, [_, _], _, _, H1, rfl, I1.kept (t' := s1.toks) hk, turn_enum a (s1.heap.objs.size + 1) s1.heap.objs.size, ⟨⟨.none, he⟩, ⟨_, ho, rfl, rfl⟩, Nat.succ_ne_self _⟩, fp, q⟩
    · obtain ⟨its, rv, p', _⟩ := I1.tuple hq
      refine en_call (begins_tuple a its.toArray) (show s1.heap.IsTuple a its.toArray from p') fun h' he ho hk => wpAny_pyIter_enum he ?_
      exact ⟨s1.heap.objs.size + 1, [_, _], _, _, H1, rfl, I1.kept (t' := s1.toks) hk, turn_enT a (s1.heap.objs.size + 1) s1.heap.objs.size, ⟨⟨.none, he⟩, ⟨_, ho, rfl, rfl⟩, Nat.succ_ne_self _⟩, fp, q⟩

/-! ### by data -/
def rgD (lo : Int) (n : Nat) : List D := (List.range n).map fun (i : Nat) => D.int (lo + (i : Int))
def dnD (lo : Int) (n : Nat) : List D := (List.range n).map fun (i : Nat) => D.int (lo - (i : Int))
def small (i : Int) : Prop := -4611686018427387904 ≤ i ∧ i < 4611686018427387904
instance (i : Int) : Decidable (small i) := inferInstanceAs (Decidable (_ ∧ _))
def iR1 (a : AD) : ID := fun ρ => (a ρ).bind fun p => match p.1 with
  | [.int j] => if small j then .ok (rgD 0 j.toNat, p.2) else .bad
  | _ => .bad
def iR2 (a : AD) : ID := fun ρ => (a ρ).bind fun p => match p.1 with
  | [.int i, .int j] => if small i ∧ small j then .ok (rgD i (j - i).toNat, p.2) else .bad
  | _ => .bad
def iR3 (a : AD) : ID := fun ρ => (a ρ).bind fun p => match p.1 with
  | [.int i, .int j, .int c] => if small i ∧ small j ∧ c = -1 then .ok (dnD i (i - j).toNat, p.2) else .bad
  | _ => .bad
def iSeq (e : ED) : ID := fun ρ => (e ρ).bind fun p => match p.1 with
  | .lst l => .ok (l, p.2)
  | .tup l => .ok (l, p.2)
  | _ => .bad
def enD : List D → Nat → List D
  | [], _ => []
  | d :: ds, n => .tup [.int n, d] :: enD ds (n + 1)
def iEn (a : AD) : ID := fun ρ => (a ρ).bind fun p => match p.1 with
  | [.lst l] => .ok (enD l 0, p.2)
  | [.tup l] => .ok (enD l 0, p.2)
  | _ => .bad
def zpD : List D → List D → List D
  | a :: as, b :: bs => .tup [a, b] :: zpD as bs
  | _, _ => []
def iZp (a : AD) : ID := fun ρ => (a ρ).bind fun p => match p.1 with
  | [.lst l, .lst m] => .ok (zpD l m, p.2)
  | [.tup l, .tup m] => .ok (zpD l m, p.2)
  | _ => .bad
theorem enD_get : ∀ (l : List D) (n i : Nat), (enD l n)[i]? = (l[i]?).map fun d => D.tup [.int ((n + i : Nat) : Int), d]
  | [], n, i => by simp [enD]
  | d :: l, n, 0 => by simp [enD]
  | d :: l, n, i + 1 => by
    show (enD l (n + 1))[i]? = _
    rw [enD_get l (n + 1) i]
    have e : n + 1 + i = n + (i + 1) := by omega
    rw [e]; rfl
theorem enD_length : ∀ (l : List D) (n : Nat), (enD l n).length = l.length
  | [], _ => rfl
  | d :: l, n => by show (enD l (n + 1)).length + 1 = _; rw [enD_length l]; rfl
theorem zpD_get : ∀ (l m : List D) (i : Nat) (d : D), (zpD l m)[i]? = some d → ∃ a b, l[i]? = some a ∧ m[i]? = some b ∧ d = .tup [a, b]
  | a :: l, b :: m, 0, d, h => ⟨a, b, rfl, rfl, by simpa [zpD] using h.symm⟩
  | a :: l, b :: m, i + 1, d, h => zpD_get l m i d (by simpa [zpD] using h)
  | [], _, i, d, h => by simp [zpD] at h
  | _ :: _, [], i, d, h => by simp [zpD] at h
theorem zpD_length : ∀ (l m : List D), (zpD l m).length = min l.length m.length
  | a :: l, b :: m => by show (zpD l m).length + 1 = _; rw [zpD_length l m, List.length_cons, List.length_cons]; omega
  | [], m => by simp [zpD]
  | a :: l, [] => by simp [zpD]
section
variable {K : PySem.W.Frag} {mg : Str → Option Value} {W : WX} {H Hf : Hp}
theorem y_rg {lo : Int} {n : Nat} : Ylds K mg Hf (rgD lo n) (Itr lo n) := fun i H1 Hf1 s1 ff => by
  refine ⟨fun d e => ?_, fun h => by unfold rgD at h; show n ≤ i; simpa using h⟩
  unfold rgD at e
  rw [List.getElem?_map] at e
  cases q : (List.range n)[i]? with
  | none => rw [q] at e; cases e
  | some j =>
    rw [q] at e
    obtain ⟨hl, ej⟩ := List.getElem?_eq_some_iff.mp q
    have hi : i < n := by simpa using hl
    have : j = i := by rw [List.getElem_range] at ej; exact ej.symm
    subst this
    cases e
    refine ⟨hi, fun x H2 hy => ?_⟩
    obtain ⟨rfl, rfl⟩ := hy
    exact ⟨Hf1, Same.refl _, Same.refl _, ff, fun a o h n => by (rw [h] at n; cases n), .int _⟩
theorem y_dn {lo : Int} {n : Nat} : Ylds K mg Hf (dnD lo n) (Itc lo (-1) n) := fun i H1 Hf1 s1 ff => by
  refine ⟨fun d e => ?_, fun h => by unfold dnD at h; show n ≤ i; simpa using h⟩
  unfold dnD at e
  rw [List.getElem?_map] at e
  cases q : (List.range n)[i]? with
  | none => rw [q] at e; cases e
  | some j =>
    rw [q] at e
    obtain ⟨hl, ej⟩ := List.getElem?_eq_some_iff.mp q
    have hi : i < n := by simpa using hl
    have : j = i := by rw [List.getElem_range] at ej; exact ej.symm
    subst this
    cases e
    refine ⟨hi, fun x H2 hy => ?_⟩
    obtain ⟨rfl, rfl⟩ := hy
    refine ⟨Hf1, Same.refl _, Same.refl _, ff, fun a o h n => by (rw [h] at n; cases n), ?_⟩
    have : lo + (j : Nat) * (-1 : Int) = lo - (j : Int) := by omega
    rw [this]
    exact .int _
theorem y_lst {a : Addr} {xs : List V} {l : List D} (e : Hf a = some (.lst xs)) (r : RpA K mg Hf l xs) : Ylds K mg Hf l (Itl K a) := fun i H1 Hf1 s1 ff => by
  have sq : SqL K H1 a xs := .inl (.inl (ff _ _ (s1 _ _ e)))
  refine ⟨fun d ed => ?_, fun h => ⟨xs, sq, by rw [← r.length]; exact h⟩⟩
  obtain ⟨v, ev, rv⟩ := r.get ed
  refine ⟨⟨xs, v, sq, ev⟩, fun x H2 hy => ?_⟩
  obtain ⟨rfl, hy⟩ := hy
  have : x = v := by have := hy xs sq; rw [ev] at this; exact (Option.some.inj this).symm
  subst this
  exact ⟨Hf1, Same.refl _, Same.refl _, ff, fun a o h n => by (rw [h] at n; cases n), rv.up s1⟩
theorem y_tup {a : Addr} {xs : List V} {l : List D} (e : Hf a = some (.tup xs)) (r : RpA K mg Hf l xs) : Ylds K mg Hf l (Itt K a) := fun i H1 Hf1 s1 ff => by
  have sq : SqT K H1 a xs := tq (s1.trans ff) e
  refine ⟨fun d ed => ?_, fun h => ⟨xs, sq, by rw [← r.length]; exact h⟩⟩
  obtain ⟨v, ev, rv⟩ := r.get ed
  refine ⟨⟨xs, v, sq, ev⟩, fun x H2 hy => ?_⟩
  obtain ⟨rfl, hy⟩ := hy
  have : x = v := by have := hy xs sq; rw [ev] at this; exact (Option.some.inj this).symm
  subst this
  exact ⟨Hf1, Same.refl _, Same.refl _, ff, fun a o h n => by (rw [h] at n; cases n), rv.up s1⟩
/-- a new pair comes -/
theorem y_new {H1 Hf1 : Hp} (ff : Same Hf1 H1) {T : Addr} (n : H1 T = none) {xs : List V} {l : List D} (r : RpA K mg Hf1 l xs) :
    ∃ Hf', Same Hf1 Hf' ∧ Same H1 (upd H1 T (.tup xs)) ∧ Same Hf' (upd H1 T (.tup xs)) ∧ (∀ a o, Hf' a = some o → Hf1 a = none → H1 a = none ∨ ∃ xs, o = .tup xs) ∧ Rp K mg Hf' (.tup l) (.ref T) := by
  have nf : Hf1 T = none := by
    cases q : Hf1 T with
    | none => rfl
    | some o => rw [ff _ _ q] at n; cases n
  refine ⟨upd Hf1 T (.tup xs), same_upd nf, same_upd n, fun a o h => ?_, fun a o h h' => ?_, .tup upd_same (r.up (same_upd nf))⟩
  · by_cases z : a = T
    · subst z; rw [upd_same] at h ⊢; exact h
    · rw [upd_ne z] at h ⊢; exact ff _ _ h
  · by_cases z : a = T
    · subst z; exact .inl n
    · rw [upd_ne z] at h; rw [h] at h'; cases h'
theorem y_enl {a : Addr} {xs : List V} {l : List D} (e : Hf a = some (.lst xs)) (r : RpA K mg Hf l xs) : Ylds K mg Hf (enD l 0) (Ite K a) := fun i H1 Hf1 s1 ff => by
  have sq : SqL K H1 a xs := .inl (.inl (ff _ _ (s1 _ _ e)))
  refine ⟨fun d ed => ?_, fun h => ⟨xs, sq, by rw [← r.length]; rw [enD_length] at h; exact h⟩⟩
  rw [enD_get] at ed
  cases q : l[i]? with
  | none => rw [q] at ed; cases ed
  | some d0 =>
    rw [q] at ed
    cases ed
    obtain ⟨v, ev, rv⟩ := r.get q
    refine ⟨⟨xs, v, sq, ev⟩, fun x H2 hy => ?_⟩
    obtain ⟨T, y, rfl, n, rfl, hy⟩ := hy
    have : y = v := by have := hy xs sq; rw [ev] at this; exact (Option.some.inj this).symm
    subst this
    rw [Nat.zero_add]
    exact y_new ff n (.cons (.int _) (.cons (rv.up s1) .nil))
theorem y_ent {a : Addr} {xs : List V} {l : List D} (e : Hf a = some (.tup xs)) (r : RpA K mg Hf l xs) : Ylds K mg Hf (enD l 0) (IteT K a) := fun i H1 Hf1 s1 ff => by
  have sq : SqT K H1 a xs := tq (s1.trans ff) e
  refine ⟨fun d ed => ?_, fun h => ⟨xs, sq, by rw [← r.length]; rw [enD_length] at h; exact h⟩⟩
  rw [enD_get] at ed
  cases q : l[i]? with
  | none => rw [q] at ed; cases ed
  | some d0 =>
    rw [q] at ed
    cases ed
    obtain ⟨v, ev, rv⟩ := r.get q
    refine ⟨⟨xs, v, sq, ev⟩, fun x H2 hy => ?_⟩
    obtain ⟨T, y, rfl, n, rfl, hy⟩ := hy
    have : y = v := by have := hy xs sq; rw [ev] at this; exact (Option.some.inj this).symm
    subst this
    rw [Nat.zero_add]
    exact y_new ff n (.cons (.int _) (.cons (rv.up s1) .nil))
theorem y_zpl {a b : Addr} {xs ys : List V} {l m : List D} (e : Hf a = some (.lst xs)) (r : RpA K mg Hf l xs) (e2 : Hf b = some (.lst ys)) (r2 : RpA K mg Hf m ys) : Ylds K mg Hf (zpD l m) (Itz K a b) := fun i H1 Hf1 s1 ff => by
  have sq : SqL K H1 a xs := .inl (.inl (ff _ _ (s1 _ _ e)))
  have sq2 : SqL K H1 b ys := .inl (.inl (ff _ _ (s1 _ _ e2)))
  refine ⟨fun d ed => ?_, fun h => ⟨xs, ys, sq, sq2, by rw [← r.length, ← r2.length]; rw [zpD_length] at h; omega⟩⟩
  obtain ⟨d1, d2, q1, q2, rfl⟩ := zpD_get l m i d ed
  obtain ⟨v, ev, rv⟩ := r.get q1
  obtain ⟨u, eu, ru⟩ := r2.get q2
  refine ⟨⟨xs, ys, v, u, sq, sq2, ev, eu⟩, fun x H2 hy => ?_⟩
  obtain ⟨T, y, z, rfl, n, rfl, hy, hz⟩ := hy
  have e1 : y = v := by have := hy xs sq; rw [ev] at this; exact (Option.some.inj this).symm
  have e2 : z = u := by have := hz ys sq2; rw [eu] at this; exact (Option.some.inj this).symm
  subst e1 e2
  exact y_new ff n (.cons (rv.up s1) (.cons (ru.up s1) .nil))
theorem y_zpt {a b : Addr} {xs ys : List V} {l m : List D} (e : Hf a = some (.tup xs)) (r : RpA K mg Hf l xs) (e2 : Hf b = some (.tup ys)) (r2 : RpA K mg Hf m ys) : Ylds K mg Hf (zpD l m) (RZ.ItzT K a b) := fun i H1 Hf1 s1 ff => by
  have sq : SqT K H1 a xs := tq (s1.trans ff) e
  have sq2 : SqT K H1 b ys := tq (s1.trans ff) e2
  refine ⟨fun d ed => ?_, fun h => ⟨xs, ys, sq, sq2, by rw [← r.length, ← r2.length]; rw [zpD_length] at h; omega⟩⟩
  obtain ⟨d1, d2, q1, q2, rfl⟩ := zpD_get l m i d ed
  obtain ⟨v, ev, rv⟩ := r.get q1
  obtain ⟨u, eu, ru⟩ := r2.get q2
  refine ⟨⟨xs, ys, v, u, sq, sq2, ev, eu⟩, fun x H2 hy => ?_⟩
  obtain ⟨T, y, z, rfl, n, rfl, hy, hz⟩ := hy
  have e1 : y = v := by have := hy xs sq; rw [ev] at this; exact (Option.some.inj this).symm
  have e2 : z = u := by have := hz ys sq2; rw [eu] at this; exact (Option.some.inj this).symm
  subst e1 e2
  exact y_new ff n (.cons (rv.up s1) (.cons (ru.up s1) .nil))
theorem i_r1 {t : TA} {a : AD} (h : WA K mg W t a) : WI K mg W (iRng1 t) (iR1 a) := ⟨fun Z C H Hf σ ρ R S hp => h.run Z C H Hf σ ρ _ S (Post.bind hp fun xs ρ1 vs H1 Hf1 s1 S1 r h1 => by
  dsimp only at h1
  split at h1
  · split at h1
    · rename_i hj
      cases r with
      | cons r1 r2 => cases r2; cases r1; exact ⟨_, rfl, by have := hj.1; omega, by have := hj.2; omega, h1.done S1 y_rg⟩
    · exact h1.elim
  · exact h1.elim)⟩
theorem i_r2 {t : TA} {a : AD} (h : WA K mg W t a) : WI K mg W (iRng2 t) (iR2 a) := ⟨fun Z C H Hf σ ρ R S hp => h.run Z C H Hf σ ρ _ S (Post.bind hp fun xs ρ1 vs H1 Hf1 s1 S1 r h1 => by
  dsimp only at h1
  split at h1
  · split at h1
    · rename_i hj
      obtain ⟨⟨a1, a2⟩, a3, a4⟩ := hj
      cases r with
      | cons r1 r2 =>
        cases r2 with
        | cons r2 r3 => cases r3; cases r1; cases r2; exact ⟨_, _, rfl, ⟨by omega, by omega, by omega, by omega⟩, h1.done S1 y_rg⟩
    · exact h1.elim
  · exact h1.elim)⟩
theorem i_r3 {t : TA} {a : AD} (h : WA K mg W t a) : WI K mg W (iRng3 t) (iR3 a) := ⟨fun Z C H Hf σ ρ R S hp => h.run Z C H Hf σ ρ _ S (Post.bind hp fun xs ρ1 vs H1 Hf1 s1 S1 r h1 => by
  dsimp only at h1
  split at h1
  · split at h1
    · rename_i i j c hj
      obtain ⟨⟨a1, a2⟩, ⟨a3, a4⟩, rfl⟩ := hj
      cases r with
      | cons r1 r2 =>
        cases r2 with
        | cons r2 r3 =>
          cases r3 with
          | cons r3 r4 => cases r4; cases r1; cases r2; cases r3; exact ⟨i, j, -1, _, rfl, RgC.neg (by omega) (by omega) (by omega) (by omega), h1.done S1 y_dn⟩
    · exact h1.elim
  · exact h1.elim)⟩
theorem i_seq {t : TE} {d : ED} (h : WE K mg W t d) : WI K mg W (iSq K t) (iSeq d) := ⟨fun Z C H Hf σ ρ R S hp => h.run Z C H Hf σ ρ _ S (Post.bind hp fun x ρ1 v H1 Hf1 s1 S1 r h1 => by
  dsimp only at h1
  split at h1
  · cases r with
    | @lst a xs _ e ra => exact ⟨a, rfl, .inl ⟨⟨xs, .inl (.inl (S1.ff _ _ e))⟩, h1.done S1 (y_lst e ra)⟩⟩
  · cases r with
    | @tup a xs _ e ra => exact ⟨a, rfl, .inr ⟨⟨xs, tq S1.ff e⟩, h1.done S1 (y_tup e ra)⟩⟩
  · exact h1.elim)⟩
theorem i_en {t : TA} {a : AD} (h : WA K mg W t a) : WI K mg W (iEnA K t) (iEn a) := ⟨fun Z C H Hf σ ρ R S hp => h.run Z C H Hf σ ρ _ S (Post.bind hp fun x ρ1 v H1 Hf1 s1 S1 r h1 => by
  dsimp only at h1
  split at h1
  · cases r with
    | cons r1 r2 =>
      cases r2
      cases r1 with
      | @lst a xs _ e ra => exact ⟨a, rfl, .inl ⟨xs, .inl (.inl (S1.ff _ _ e)), h1.done S1 (y_enl e ra)⟩⟩
  · cases r with
    | cons r1 r2 =>
      cases r2
      cases r1 with
      | @tup a xs _ e ra => exact ⟨a, rfl, .inr ⟨xs, tq S1.ff e, h1.done S1 (y_ent e ra)⟩⟩
  · exact h1.elim)⟩
theorem i_zp {t : TA} {a : AD} (h : WA K mg W t a) : WI K mg W (RZ.iZipA K t) (iZp a) := ⟨fun Z C H Hf σ ρ R S hp => h.run Z C H Hf σ ρ _ S (Post.bind hp fun x ρ1 v H1 Hf1 s1 S1 r h1 => by
  dsimp only at h1
  split at h1
  · cases r with
    | cons r1 r2 =>
      cases r2 with
      | cons r2 r3 =>
        cases r3
        cases r1 with
        | @lst a xs _ e ra =>
          cases r2 with
          | @lst b ys _ e2 rb => exact ⟨a, b, xs, ys, rfl, .inl ⟨.inl (.inl (S1.ff _ _ e)), .inl (.inl (S1.ff _ _ e2)), h1.done S1 (y_zpl e ra e2 rb)⟩⟩
  · cases r with
    | cons r1 r2 =>
      cases r2 with
      | cons r2 r3 =>
        cases r3
        cases r1 with
        | @tup a xs _ e ra =>
          cases r2 with
          | @tup b ys _ e2 rb => exact ⟨a, b, xs, ys, rfl, .inr ⟨tq S1.ff e, tq S1.ff e2, h1.done S1 (y_zpt e ra e2 rb)⟩⟩
  · exact h1.elim)⟩
end
end DL

set_option Elab.async false
set_option linter.all false
set_option maxRecDepth 100000
set_option maxHeartbeats 4000000
/-! DL10: further rules of the machine: set(list), sorted(set(..)), t * k, t[::-1] -/
namespace DL
open PySem PySem.Spec PyProof.Rows L2
section
variable {P : Program} {w : World} {A : Around} {E : Value → Shared → Prop} {s : Shared}
abbrev freshSet (w : World) : Obj := { cls := .type "set", dict := none, data := .set #[] 0 (.fresh 0 0 (!w.params.followText "set-order")) }
theorem set_of_list {l : Addr} {items : Array Value} (ns : List Int) {Q : Value → Shared → Prop} (hh : A.handled = none) (hl : s.heap.IsList l items) (hit : IntsAre items.toList ns) (hb : ns.length + 1 < scanBound)
    (h : ∀ (h' : Heap) (tk c : Nat), SetR w h' s.heap.objs.size (fun j => decide (j ∈ ns)) c → c ≤ ns.length → (∀ b o, s.heap.get? b = some o → h'.get? b = some o) → Q (.ref s.heap.objs.size) { s with heap := h', toks := tk }) :
    wpAny (model P w) A (call (.type "set") [.ref l]) Q E s := by
  have zs : items.size = ns.length := by
    have q := IntsAre.length hit
    rwa [Array.length_toList] at q
  obtain ⟨c, tl, mr⟩ := F.called_set.mro
  have made := F.called_set.made
  have sb := F.called_set.sub
  refine wpAny_call (codeAny_of_tree ?_)
  show wpAny _ _ (callAny (.type "set") _) _ _ _
  refine wpAny_pure ⟨Code.quiet_builtin _ (by decide +kernel), codeAny_builtin F.entry_type_call ?_⟩
  rw [Around.under_plain (weight_type_call_type "set" [.ref l] []) rfl]
  have e1 := F.called_set.notType
  have e2 := F.called_set.canCreate
  have e3 := F.typeCall_set_1 (.ref l)
  repeat (any_goals (first | assumption | wp_step))
  refine codeAny_mono (code_set_led1 (.ref l) (E := E) (Q₁ := fun ob t => ob = .ref s.heap.objs.size ∧ t = { s with heap := s.heap.push (freshSet w) }) ⟨rfl, rfl⟩) fun r t hr => ?_
  cases r with
  | error e => exact hr
  | ok fl =>
    cases fl with
    | ret ob =>
      obtain ⟨rfl, rfl⟩ := hr
      have gS : (s.heap.push (freshSet w)).get? s.heap.objs.size = some (freshSet w) := Heap.get?_push_size _ rfl
      have tS : Shared.TypeIs { s with heap := s.heap.push (freshSet w) } (.ref s.heap.objs.size) "set" := ⟨_, gS, rfl⟩
      have e4 := F.called_set.init.lookup
      have e5 := F.called_set.init.bind (.ref s.heap.objs.size)
      repeat (any_goals (first | assumption | wp_step))
      refine codeAny_mono (codeAny_call_builtin (R := wants (fun r u => r = .none ∧ ∃ h' tk c, u = { s with heap := h', toks := tk } ∧ SetR w h' s.heap.objs.size (fun j => decide (j ∈ ns)) c ∧ c ≤ ns.length ∧
          (∀ b o, s.heap.get? b = some o → h'.get? b = some o)) E) F.called_set.init.plain F.entry_set_init (check_set_init_1 tS ?_)) fun r2 u hr2 => ?_
      · obtain ⟨⟨oc, od, odt, osl⟩, hol, hcl, nl, hdl⟩ := hl
        simp only at hcl hdl
        subst hcl hdl
        have hol' : (s.heap.push (freshSet w)).get? l = some { cls := .type "list", dict := od, data := .seq items nl, slots := osl } := Heap.get?_push_of_some _ hol
        have f1 := F.sub_list_set
        have f2 := F.sub_list_frozenset
        have f3 : (Value.type "list" == Value.type "dict") = false := by decide
        have hl1 : (s.heap.push (freshSet w)).IsList l items := ⟨_, hol', rfl, nl, rfl⟩
        unfold Builtin.«set.__init__» noKeywords Builtin.Frozenset.updateFrom
        generalize hPI : pyIter = PI
        wp_walk
        subst hPI
        refine wpAny_pyIter_list hl1 (wpAny_bind (wpAny_runValue ?_))
        have hlS : l < s.heap.objs.size := Heap.lt_size hol
        have h3 : A.in1.in1.in1.handled = none := by simp [hh]
        have hz : (s.heap.push (freshSet w)).objs.size = s.heap.objs.size + 1 := Heap.size_push ..
        have ne : l ≠ (s.heap.push (freshSet w)).objs.size := by rw [hz]; exact Nat.ne_of_lt (Nat.lt_succ_of_lt hlS)
        have nf : s.heap.objs.size ∉ [(s.heap.push (freshSet w)).objs.size, l] := by
          rw [hz]
          intro z
          rcases (show s.heap.objs.size = s.heap.objs.size + 1 ∨ s.heap.objs.size = l by simpa using z) with z | z
          · exact Nat.ne_of_lt (Nat.lt_succ_self _) z
          · exact Nat.ne_of_gt hlS z
        have val : ∀ (i : Nat) (v : Value), items[i]? = some v → ∃ k t, ns[i]? = some k ∧ v = .int k t := fun i v hv => by
          have hi : i < ns.length := zs ▸ (Array.getElem?_eq_some_iff.mp hv).1
          obtain ⟨t, e⟩ := PyProof.Rows.IntsAre.int_at hit i v (by rw [Array.getElem?_toList]; exact hv)
          refine ⟨ns[i], t, List.getElem?_eq_getElem hi, ?_⟩
          rw [e, List.getD_eq_getElem?_getD, List.getElem?_eq_getElem hi] <;> rfl
        refine set_update_ints ((Walks.list h3 _ l ne items).toS) s.heap.objs.size nf ns zs hb val (items.size - 0) 0 _ (by omega) (Nat.zero_le _)
          ⟨⟨_, Heap.get?_push_size _ rfl, rfl, rfl⟩, (hl1.push _)⟩ ⟨0, Nat.le_refl 0, setR_new_at (Heap.get?_push_of_some _ gS)⟩ fun s' c' hm hc' hS' => ?_
        obtain ⟨h', g2, d', tk', os'⟩ := s'
        have q1 : g2 = s.gens := hm.gens
        have q2 : d' = s.drawn := hm.drawn
        have q3 : os' = s.os := hm.os
        subst q1 q2 q3
        show wpAny _ _ _ _ _ _
        refine wpAny_pure ?_
        show wpAny _ _ (ret Value.none) _ _ _
        rw [zs] at hc'
        refine wpAny_pure ⟨rfl, h', tk', c', rfl, hS', hc', fun b o e => ?_⟩
        have hb0 := Heap.lt_size e
        exact hm.heap b o (fun z => by
          rcases (show b = s.heap.objs.size ∨ b = (s.heap.push (freshSet w)).objs.size by simpa using z) with z | z
          · exact Nat.ne_of_lt hb0 z
          · rw [hz] at z; exact Nat.ne_of_lt (Nat.lt_succ_of_lt hb0) z) (Heap.get?_push_of_some _ (Heap.get?_push_of_some _ e))
      · cases r2 with
        | error e => exact hr2
        | ok fl =>
          cases fl with
          | ret v =>
            obtain ⟨rfl, h', tk', c', rfl, hS', hc', kk⟩ := hr2
            repeat (any_goals (first | assumption | wp_step))
            exact h h' tk' c' hS' hc' kk
          | _ => exact hr2.elim
    | _ => exact hr.elim
end
end DL

set_option Elab.async false
set_option linter.all false
set_option maxRecDepth 100000
set_option maxHeartbeats 4000000
/-! DL11: t * k, t[::-1], sorted(set(..)), raise X() -/
namespace DL
open PySem PySem.Spec PyProof.Rows L2
open PySem.AutoSeq1 (wpAny_loadPart')
theorem tup_mul1 (l : Addr) (items : Array Value) (n : Nat) (u : Tok) (sl : Array (Option Value)) (dd : Option Addr) :
    Meets (Builtin.«tuple.__mul__» ⟨[.ref l, .int 1 u], []⟩) (fun _ R s => s.heap.get? l = some { cls := .type "tuple", dict := dd, data := .seq items n, slots := sl } ∧ R (.ok (.ret (.ref l))) s) :=
  .of_wp fun prog w A R s h => by
    obtain ⟨hp, g, d, tk, os⟩ := s
    obtain ⟨hl, h⟩ := h
    have f1 := AutoSeq1.idx_int
    have c0 : (decide ((1 : Int) < -(2 ^ 63)) || decide ((1 : Int) ≥ 2 ^ 63)) = false := by decide
    have c1 : (items.isEmpty || (1 : Int) == 1) = true := by simp
    wp_walk using wpAny_loadPart' hl
    repeat (first
      | (refine wpAny_ite_false (decide_eq_false (by rw [c0]; exact Bool.false_ne_true)) ?_; wp_walk using wpAny_loadPart' hl)
      | (refine wpAny_ite_true (decide_eq_true c1) ?_; wp_walk using wpAny_loadPart' hl))
    exact ⟨_, rfl, h⟩
section
variable {X : Cx}
def rRep1 (K : PySem.W.Frag) : R2 := fun x y H Q => ∃ l xs, x = .ref l ∧ y = .int 1 ∧ SqT K H l xs ∧ Q (.ref l) H
theorem op_rep1 : OpR X (binaryOp .Mult) (rRep1 X.K) := by
  intro pins s σ H x y v u Q I rx ry h
  obtain ⟨l, xs, rfl, rfl, hT, q⟩ := h
  cases rx
  obtain ⟨t, rfl⟩ := ry
  obtain ⟨its, r, ⟨⟨cls, dd, data, sl⟩, ho, hc, n, hd⟩, _⟩ := I.tuple hT
  simp only at hc hd
  subst hc hd
  exact wpAny_binaryOp_repeat_ref (T := "tuple") (U := "int") (by decide) ⟨_, ho, rfl⟩ (fun s' => typeIs_int s' 1 t) noFill_tuple_mul F.fills_int_mul F.slot_int_rmul repeat_tuple F.slot_int_index.lookup
    (call_meets F.slot_int_rmul (typeIs_int s 1 t) F.entry_int_rmul (F.args_int_rmul_2 _ _) (int_rmul_tuple 1 t l its.toArray n dd sl)
      ⟨ho, rfl, ⟨_, ho, rfl⟩, call_meets F.slot_tuple_mul ⟨_, ho, rfl⟩ F.entry_tuple_mul (F.args_tuple_mul_2 _ _) (tup_mul1 l its.toArray n t sl dd) ⟨ho, ⟨.ref l, H, I.tok _, rfl, q⟩⟩⟩)
def rMulU (K : PySem.W.Frag) : R2 := fun x y H Q => rI CMul (fun i j => .int (i * j)) x y H Q ∨ (rRepT K x y H Q ∨ (rRep1 K x y H Q ∨ rRep x y H Q))
theorem opMulU : OpR X (binaryOp .Mult) (rMulU X.K) := op_mul.or (op_repT.or (op_rep1.or op_rep))
end
section
variable {K : PySem.W.Frag} {mg : Str → Option Value}
theorem o_mul : OpD K mg (rMulU K) mulD := fun Z W C H Hf σ ρ x y v u Q S rx ry h => by
  unfold mulD at h
  split at h
  · split at h
    · rename_i hb
      cases rx; cases ry
      refine .inl ⟨_, _, rfl, rfl, ?_, h.done S (.int _)⟩
      have e : (2 : Int) ^ 64 = 18446744073709551616 := by decide
      unfold CMul
      rw [e]
      exact hb
    · exact h.elim
  · rename_i a k
    split at h
    · rename_i hb
      obtain ⟨h1, h2, h3, h4⟩ := hb
      cases ry
      cases rx with
      | @tup p xs _ e ra =>
        by_cases hk : k = 1
        · subst hk
          have e1 : (List.replicate (1 : Int).toNat a).flatten = a := by simp
          rw [e1] at h
          exact .inr (.inr (.inl ⟨p, xs, rfl, rfl, tq S.ff e, h.done S (.tup e ra)⟩))
        · exact .inr (.inl ⟨p, k, xs, rfl, rfl, tq S.ff e, fun z => h1 (ra.nil_iff.mp z), by omega, h3, by rw [← ra.length]; exact h4, fun q nq => newT S h (ra.rep _) nq⟩)
    · exact h.elim
  · rename_i a k
    split at h
    · rename_i hb
      obtain ⟨h1, h2, h3⟩ := hb
      cases ry
      cases rx with
      | @lst p xs _ e ra =>
        refine .inr (.inr (.inr ⟨p, k, xs, rfl, rfl, S.ff _ _ e, by omega, by omega, sz_ok (by rw [← ra.length]; exact h3), fun q nq => ?_⟩))
        exact h _ _ _ (same_upd (S.free nq)) (S.laid (.lst _) nq) (.lst upd_same ((ra.rep _).up (same_upd (S.free nq))))
    · exact h.elim
  · exact h.elim
end
/-! ### t[::-1] -/
section
variable {prog : Program} {w : World} {A : Around} {E : Value → Shared → Prop} {s : Shared}
theorem fm_map {α β : Type} {f : α → Option β} {g : α → β} : ∀ (l : List α), (∀ x ∈ l, f x = some (g x)) → l.filterMap f = l.map g
  | [], _ => rfl
  | x :: l, h => by
    rw [List.filterMap_cons, h x List.mem_cons_self, List.map_cons, fm_map l fun y hy => h y (List.mem_cons_of_mem _ hy)]
theorem down_pick (xs : Array Value) : ((List.range xs.size).filterMap fun (k : Nat) => xs[(((xs.size : Int) - 1) + (k : Int) * (-1)).toNat]?).toArray = xs.toList.reverse.toArray := by
  congr 1
  apply List.ext_getElem?
  intro i
  have e : ((List.range xs.size).filterMap fun (k : Nat) => xs[(((xs.size : Int) - 1) + (k : Int) * (-1)).toNat]?) = (List.range xs.size).map fun (k : Nat) => (xs.toList.reverse).getD k .none := by
    refine fm_map _ fun k hk => ?_
    have hk' : k < xs.size := List.mem_range.mp hk
    have e1 : (((xs.size : Int) - 1) + (k : Int) * (-1)).toNat = xs.size - 1 - k := by omega
    rw [e1]
    have h1 : xs.size - 1 - k < xs.size := by omega
    have h2 : k < xs.toList.reverse.length := by simpa using hk'
    rw [Array.getElem?_eq_getElem h1]
    rw [List.getD_eq_getElem?_getD, List.getElem?_eq_getElem h2, Option.getD_some, List.getElem_reverse]
    simp
  rw [e, List.getElem?_map]
  by_cases hi : i < xs.size
  · rw [List.getElem?_range hi, Option.map_some, List.getD_eq_getElem?_getD]
    have h2 : i < xs.toList.reverse.length := by simpa using hi
    rw [List.getElem?_eq_getElem h2]; rfl
  · rw [List.getElem?_eq_none (by simpa using hi), List.getElem?_eq_none (by simpa using hi)]; rfl
theorem down_applied {sl : Addr} {vl vu vs : Value} {n : Nat} {Q : Int × Int × Nat → Shared → Prop} (hs : s.heap.IsSliceOf sl vl vu vs) (pl : IsPart vl none) (pu : IsPart vu none) (ps : IsPart vs (some (-1)))
    (h : Q ((n : Int) - 1, -1, n) s) : wpAny (model prog w) A (Builtin.Slice.sliceApplied (.ref sl) (pure (n : Int))) Q E s := by
  obtain ⟨os, hos, hcs, hds⟩ := id hs
  unfold Builtin.Slice.sliceApplied Builtin.Slice.sliceFields
  refine wpAny_bind (wpAny_bind (wpAny_field hos hds (x := vl) rfl (wpAny_bind (wpAny_field hos hds (x := vu) rfl (wpAny_bind (wpAny_field hos hds (x := vs) rfl (wpAny_pure ?_)))))))
  refine wpAny_bind (HT.slicePart_ ps ?_)
  show wpAny _ _ (if ((-1 : Int) == 0) = true then _ else _) _ _ s
  rw [if_neg (by decide)]
  refine wpAny_bind (HT.slicePart_ pl (wpAny_bind (HT.slicePart_ pu (wpAny_bind (wpAny_pure ?_)))))
  show wpAny _ _ (match Builtin.Slice.sliceAdjust none none (-1) (n : Int) with | (lo, hi) => pure (lo, (-1 : Int), Builtin.Slice.slicePlaces lo hi (-1))) _ _ s
  have e1 : Builtin.Slice.sliceAdjust none none (-1) (n : Int) = ((n : Int) - 1, -1) := by
    unfold Builtin.Slice.sliceAdjust
    rfl
  rw [e1]
  have e2 : Builtin.Slice.slicePlaces ((n : Int) - 1) (-1) (-1) = n := by
    unfold Builtin.Slice.slicePlaces
    rw [if_neg (by decide)]
    by_cases h0 : n = 0
    · subst h0; rfl
    · rw [if_pos (by omega)]
      have : -(-1 : Int) = 1 := rfl
      rw [this, Int.ediv_one]
      omega
  show wpAny _ _ (pure ((n : Int) - 1, (-1 : Int), Builtin.Slice.slicePlaces ((n : Int) - 1) (-1) (-1))) _ _ s
  rw [e2]
  exact wpAny_pure h
theorem down_tup {t sl : Addr} {items : Array Value} {vl vu vs : Value} {Q : Value → Shared → Prop} (ht : IsTup s.heap t items) (hs : s.heap.IsSliceOf sl vl vu vs) (pl : IsPart vl none) (pu : IsPart vu none) (ps : IsPart vs (some (-1)))
    (h : Q (.ref s.heap.objs.size) { s with heap := s.heap.push { cls := .type "tuple", data := .seq items.toList.reverse.toArray } }) (hsz : items.size ≤ sizeLine) : wpAny (model prog w) A (getItem (.ref t) (.ref sl)) Q E s := by
  obtain ⟨os, hos, hcs, hds⟩ := id hs
  have hTs : s.TypeIs (.ref sl) "slice" := ⟨os, hos, hcs⟩
  unfold getItem
  try with_reducible refine wpAny_holding ?_
  first | refine wpAny_bind (wpAny_pure ?_) | skip
  refine wpAny_bind (wpAny_sequenceKey ht.typeIs (by decide) ?_)
  refine wpAny_bind (wpAny_callSpecial?_slot (name := Str.ofString "__getitem__") ht.typeIs PyProof.Rows.slot_tuple_getitem
    (wpAny_call_entry PyProof.Rows.slot_tuple_getitem ht.typeIs entry_tuple_getitem ?_ (args_tuple_getitem _ _)))
  show wpAny _ _ (Builtin.Tuple.tupleItemsOf (.ref t) >>= _) _ _ s
  refine wpAny_bind (tupleItemsOf_ ht (wpAny_bind (wpAny_typeOf hTs ?_)))
  rw [if_pos (by decide)]
  refine wpAny_bind (down_applied hs pl pu ps ?_)
  have no : ¬ ((((items.size : Int) - 1) == 0 && (-1 : Int) == 1 && items.size == items.size) = true) := by simp
  show wpAny _ _ (if (((items.size : Int) - 1) == 0 && (-1 : Int) == 1 && items.size == items.size) = true then _ else _) _ _ s
  rw [if_neg no]
  show wpAny _ _ (Builtin.Tuple.tupleExact ((List.range items.size).filterMap fun (k : Nat) => items[(((items.size : Int) - 1) + (k : Int) * (-1)).toNat]?).toArray >>= _) _ _ s
  rw [down_pick]
  have hz : sizeOk (.seq items.toList.reverse.toArray) := by
    show items.toList.reverse.toArray.size ≤ sizeLine
    simpa using hsz
  first
    | exact wpAny_bind (m := Builtin.Tuple.tupleExact _) (wpAny_newObj_type (wpAny_pure ⟨_, rfl, wpAny_pure h⟩) hz)
    | exact wpAny_bind (m := Builtin.Tuple.tupleExact _) (wpAny_newObj_type (wpAny_bind (wpAny_pure (wpAny_pure ⟨_, rfl, wpAny_pure h⟩))) hz)
    | exact wpAny_bind (wpAny_bind (m := Builtin.Tuple.tupleExact _) (wpAny_newObj_type (wpAny_pure (wpAny_pure ⟨_, rfl, wpAny_pure h⟩)) hz))
    | exact wpAny_bind (wpAny_bind (m := Builtin.Tuple.tupleExact _) (wpAny_newObj_type (wpAny_pure ⟨_, rfl, wpAny_pure h⟩) hz))
end
section
variable {X : Cx}
/-- x[::-1], a tuple or a list -/
def tDown (K : PySem.W.Frag) (te : TE) : TE := fun σ H Q => te σ H fun x H1 => ∃ a xs, x = .ref a ∧ ((SqT K H1 a xs ∧ ∀ p, H1 p = none → Q (.ref p) (upd H1 p (.tup xs.reverse))) ∨ (SqL K H1 a xs ∧ ∀ p, H1 p = none → Q (.ref p) (upd H1 p (.lst xs.reverse))))
theorem pe_down {e : Expr} {te : TE} {k : Nat} {p1 p2 p3 pos : Pos} (he : PE X e te) : PE X (.Subscript e (.Slice none none (some (.UnaryOp .USub (.Constant (.int 1) k p1) p2)) p3) pos) (tDown X.K te) := by
  refine ⟨fun pins s σ H Q I h => Subscript_ (thn (he.run pins s σ H _ I h) fun v s1 hh => ?_)⟩
  obtain ⟨x, H1, I1, r1, a, xs, rfl, q⟩ := hh
  cases r1
  have st : PO X (some (.UnaryOp .USub (.Constant (.int 1) k p1) p2)) (tPart (tUn (rU fun i => .int (-i)) (tC (.int 1)))) := po_some (pe_un un_neg pe_int)
  refine wpAny_Slice (thn (po_none.run pins s1 σ H1 (fun o H2 => o = none ∧ H2 = H1) I1 ⟨rfl, rfl⟩) fun vl s2 h2 => ?_)
  obtain ⟨l, H2, I2, pl, rfl, rfl⟩ := h2
  refine thn (po_none.run pins s2 σ H2 (fun o H3 => o = none ∧ H3 = H2) I2 ⟨rfl, rfl⟩) fun vu s3 h3 => ?_
  obtain ⟨u, H3, I3, pu, rfl, rfl⟩ := h3
  refine thn (st.run pins s3 σ H3 (fun o H4 => o = some (-1) ∧ H4 = H3) I3 ⟨1, rfl, -1, rfl, rfl, rfl⟩) fun vs s4 h4 => ?_
  obtain ⟨o, H4, I4, ps, rfl, rfl⟩ := h4
  have I5 : Inv X pins σ H4 { s4 with heap := s4.heap.push { cls := .type "slice", data := .fields #[vl, vu, vs] } } := I4.kept (t' := s4.toks) fun b ob q => Heap.get?_push_of_some _ q
  show wpAny (model X.prog X.w) X.A (subscriptTail e (.Slice none none (some (.UnaryOp .USub (.Constant (.int 1) k p1) p2)) p3) (.ref a) (.ref s4.heap.objs.size)) (EP X pins σ Q) X.xe { s4 with heap := s4.heap.push { cls := .type "slice", data := .fields #[vl, vu, vs] } }
  rcases q with ⟨hx, q⟩ | ⟨hx, q⟩
  · obtain ⟨its, r, ht, hz⟩ := I5.tuple hx
    have hl := r.length
    refine tail_any (ops := [.ref a, .ref s4.heap.objs.size]) ht.typeIs (PyProof.Rows.slot_tuple_getitem.lookup) ?_ (by with_unfolding_all rfl)
    refine down_tup ht (Heap.IsSliceOf.new _ vl vu vs) pl pu ps ?_ (by rw [List.size_toArray]; omega)
    refine ⟨.ref _, _, I5.laid (t' := s4.toks) (o := .tup xs.reverse) (fun b ob q => Heap.get?_push_of_some _ q) (Nat.le_refl _) ?_, rfl, q _ (I5.hok.fresh (Nat.le_refl _))⟩
    exact ⟨by rw [List.length_reverse]; exact hz, _, r.reverse, IsTup.new _ _⟩
  · obtain ⟨its, r, ht, hz⟩ := I5.list hx
    have hl := r.length
    refine tail_any (ops := [.ref a, .ref s4.heap.objs.size]) ht.isList.typeIs (PySem.slot_list_getitem.lookup) ?_ (by with_unfolding_all rfl)
    refine wpAny_getItem_list_slice ht.isList (Heap.IsSliceOf.new _ vl vu vs) pl pu ps (by decide) ?_ (by rw [List.size_toArray]; omega)
    rw [PySem.W.krv_pick]
    refine ⟨.ref _, _, I5.laid (t' := s4.toks) (o := .lst xs.reverse) (fun b ob q => Heap.get?_push_of_some _ q) (Nat.le_refl _) ?_, rfl, q _ (I5.hok.fresh (Nat.le_refl _))⟩
    exact ⟨by rw [List.length_reverse]; exact hz, _, 0, r.reverse, Heap.get?_push_size _ rfl⟩
/-! ### sorted(set(x)), ints -/
def tSS (K : PySem.W.Frag) (te : TE) : TE := fun σ H Q => te σ H fun x H1 => ∃ (a : Addr) (ns : List Int), x = .ref a ∧ (SqT K H1 a (ns.map V.int) ∨ SqL K H1 a (ns.map V.int)) ∧ ns.length < 64 ∧ ∀ (ms : List Int) p, ms.Pairwise (· < ·) → (∀ k, k ∈ ms ↔ k ∈ ns) → H1 p = none → Q (.ref p) (upd H1 p (.lst (ms.map V.int)))
theorem pe_ss {e : Expr} {te : TE} {p p2 q pos : Pos} (hc : X.calm = true) (hg : Gl X "sorted") (hm : X.mg "sorted" = none) (hg2 : Gl X "set") (hm2 : X.mg "set" = none) (he : PE X e te)
    (na : starEach [e] X.env = (false, eval e X.env) :: starEach [] X.env := by rfl)
    (nb : starEach [.Call (.Name "set" p2) [e] [] q] X.env = (false, eval (.Call (.Name "set" p2) [e] [] q) X.env) :: starEach [] X.env := by rfl) :
    PE X (.Call (.Name "sorted" p) [.Call (.Name "set" p2) [e] [] q] [] pos) (tSS X.K te) := by
  refine ⟨fun pins s σ H Q I h => ?_⟩
  refine Call_ (ld_blt (u := .builtin "sorted") I hg hm (by decide +kernel) ?_)
  refine PyProof.Rows.callWith_builtin1 (PyProof.Rows.args_cons ?_ nb) nb rfl
  refine Call_ (ld_blt I hg2 hm2 boot_set ?_)
  refine PyProof.Rows.callWith_type1 (PyProof.Rows.args_cons (thn (he.run pins s σ H _ I h) fun v s1 hh => PyProof.Rows.args_nil ?_) na) na rfl
  obtain ⟨x, H1, I1, r1, a, ns, rfl, hq, h64, q1⟩ := hh
  cases r1
  have hd := I1.ok.hd hc
  have key : ∀ (h' : Heap) (tk c : Nat), SetR X.w h' s1.heap.objs.size (fun j => decide (j ∈ ns)) c → c ≤ ns.length → (∀ b o, s1.heap.get? b = some o → h'.get? b = some o) →
      wpAny (model X.prog X.w) X.A (call (.builtin "sorted") [.ref s1.heap.objs.size]) (EP X pins σ Q) X.xe { s1 with heap := h', toks := tk } := by
    intro h' tk c R hc' kk
    have I2 : Inv X pins σ H1 { s1 with heap := h', toks := tk } := I1.kept kk
    refine sorted_set R hd (by omega) fun s' p out c2 ms k g o hp hg' hi hs hm' hl => ?_
    have hn : H1 p = none := I2.hok.fresh hp
    have J : Inv X pins σ (upd H1 p (.lst (ms.map V.int))) { { s1 with heap := h', toks := tk } with heap := s'.heap, gens := s'.gens, drawn := s'.drawn, toks := s'.toks } :=
      I2.call (ch := []) (Un.laid k hp hn) (I2.hok.laid k hp ⟨by rw [List.length_map, hl, sizeLine_eq]; omega, out.toList, c2, vals_of_ints hi, hg'⟩) (by rw [g]; exact I2.bare) (fun _ z => nomatch z)
    have e : s' = { { s1 with heap := h', toks := tk } with heap := s'.heap, gens := s'.gens, drawn := s'.drawn, toks := s'.toks } := by
      cases s'
      cases s1
      cases o
      rfl
    rw [e]
    exact ⟨.ref p, _, J, rfl, q1 ms p hs (fun x => by rw [hm' x]; simp) hn⟩
  rcases hq with hq | hq
  · obtain ⟨its, r, pt, hz⟩ := I1.tuple hq
    refine call_set_tupI ns hd (show s1.heap.IsTuple a its.toArray from pt) (by simpa using intsAre_of r) (by unfold scanBound; omega) fun h' tk c R hcn k => ?_
    exact PyProof.Rows.args_nil (key h' tk c R hcn k)
  · obtain ⟨its, r, pl, hz⟩ := I1.list hq
    refine set_of_list ns hd pl.isList (by simpa using intsAre_of r) (by unfold scanBound; omega) fun h' tk c R hcn k => ?_
    exact PyProof.Rows.args_nil (key h' tk c R hcn k)
end
/-! by data -/
/-- the ints of a list, rising, each once -/
def setI (l : List Int) : List Int := (srtI l).eraseDups
def upI (l : List Int) : List Int := match l with
  | [] => []
  | a :: l => a :: upGo a l
where upGo (a : Int) : List Int → List Int
  | [] => []
  | b :: l => if b = a then upGo a l else b :: upGo b l
def downD : D → Option D
  | .tup l => some (.tup l.reverse)
  | .lst l => some (.lst l.reverse)
  | _ => none
def ssI (l : List Int) : List Int := upI (srtI l)
def ssO : D → Option (List D)
  | .tup l => (unI l).bind fun ns => if ns.length < 64 then some (iL (ssI ns)) else none
  | .lst l => (unI l).bind fun ns => if ns.length < 64 then some (iL (ssI ns)) else none
  | _ => none
theorem upGo_spec : ∀ (l : List Int) (a : Int), (a :: l).Pairwise (· ≤ ·) → (upI.upGo a l).Pairwise (· < ·) ∧ (∀ x ∈ upI.upGo a l, a < x) ∧ ∀ x, (x ∈ upI.upGo a l ∨ x = a) ↔ (x ∈ l ∨ x = a)
  | [], a, _ => ⟨.nil, (fun x h => by cases h), fun x => Iff.rfl⟩
  | b :: l, a, h => by
    obtain ⟨h1, h2⟩ := List.pairwise_cons.mp h
    have hab := h1 b List.mem_cons_self
    unfold upI.upGo
    by_cases e : b = a
    · subst e
      rw [if_pos rfl]
      obtain ⟨g1, g2, g3⟩ := upGo_spec l b h2
      refine ⟨g1, g2, fun x => ?_⟩
      rw [g3 x, List.mem_cons]
      constructor
      · rintro (h | h)
        · exact .inl (.inr h)
        · exact .inr h
      · rintro ((h | h) | h)
        · exact .inr h
        · exact .inl h
        · exact .inr h
    · rw [if_neg e]
      obtain ⟨g1, g2, g3⟩ := upGo_spec l b h2
      have lt : a < b := by omega
      refine ⟨List.pairwise_cons.mpr ⟨g2, g1⟩, fun x hx => ?_, fun x => ?_⟩
      · rcases List.mem_cons.mp hx with rfl | hx
        · exact lt
        · have := g2 x hx; omega
      · have := g3 x
        rw [List.mem_cons, List.mem_cons]
        constructor
        · rintro ((h | h) | h)
          · exact .inl (.inl h)
          · rcases this.mp (.inl h) with h | h
            · exact .inl (.inr h)
            · exact .inl (.inl h)
          · exact .inr h
        · rintro ((h | h) | h)
          · exact .inl (.inl h)
          · rcases this.mpr (.inl h) with h | h
            · exact .inl (.inr h)
            · exact .inl (.inl h)
          · exact .inr h
theorem ssI_up (l : List Int) : (ssI l).Pairwise (· < ·) := by
  unfold ssI
  have h := srtI_up l
  cases q : srtI l with
  | nil => exact .nil
  | cons a m =>
    rw [q] at h
    obtain ⟨g1, g2, _⟩ := upGo_spec m a h
    exact List.pairwise_cons.mpr ⟨g2, g1⟩
theorem ssI_mem (l : List Int) (x : Int) : x ∈ ssI l ↔ x ∈ l := by
  rw [← (srtI_perm l).mem_iff]
  unfold ssI
  have h := srtI_up l
  cases q : srtI l with
  | nil => rfl
  | cons a m =>
    rw [q] at h
    obtain ⟨_, _, g3⟩ := upGo_spec m a h
    have := g3 x
    show x ∈ a :: upI.upGo a m ↔ _
    rw [List.mem_cons, List.mem_cons]
    constructor
    · rintro (h | h)
      · exact .inl h
      · exact (this.mp (.inl h)).symm
    · rintro (h | h)
      · exact .inl h
      · exact (this.mpr (.inl h)).symm
/-- rising lists with the same members are one -/
theorem up_one : ∀ {a b : List Int}, a.Pairwise (· < ·) → b.Pairwise (· < ·) → (∀ x, x ∈ a ↔ x ∈ b) → a = b
  | [], [], _, _, _ => rfl
  | [], y :: b, _, _, h => by have := (h y).mpr List.mem_cons_self; cases this
  | x :: a, [], _, _, h => by have := (h x).mp List.mem_cons_self; cases this
  | x :: a, y :: b, h1, h2, h => by
    obtain ⟨p1, q1⟩ := List.pairwise_cons.mp h1
    obtain ⟨p2, q2⟩ := List.pairwise_cons.mp h2
    have e : x = y := by
      rcases List.mem_cons.mp ((h x).mp List.mem_cons_self) with e | hx
      · exact e
      · rcases List.mem_cons.mp ((h y).mpr List.mem_cons_self) with e | hy
        · exact e.symm
        · have := p1 y hy; have := p2 x hx; omega
    subst e
    rw [up_one q1 q2 fun z => ?_]
    have hz := h z
    rw [List.mem_cons, List.mem_cons] at hz
    constructor
    · intro m
      rcases hz.mp (.inr m) with e | m'
      · subst e; have := p1 z m; omega
      · exact m'
    · intro m
      rcases hz.mpr (.inr m) with e | m'
      · subst e; have := p2 z m; omega
      · exact m'
section
variable {K : PySem.W.Frag} {mg : Str → Option Value} {W : WX}
theorem w_down {te : TE} {d : ED} (h : WE K mg W te d) : WE K mg W (tDown K te) (dUn downD d) := ⟨fun Z C H Hf σ ρ Q S hp => h.run Z C H Hf σ ρ _ S (Post.bind hp fun x ρ1 v H1 Hf1 s1 S1 r h1 => by
  cases x with
  | tup l => cases r with
    | @tup a xs _ e ra => exact ⟨a, xs, rfl, .inl ⟨tq S1.ff e, fun p np => newT S1 h1 ra.reverse np⟩⟩
  | lst l => cases r with
    | @lst a xs _ e ra => exact ⟨a, xs, rfl, .inr ⟨.inl (.inl (S1.ff _ _ e)), fun p np => h1 _ _ _ (same_upd (S1.free np)) (S1.laid (.lst xs.reverse) np) (.lst upd_same (ra.reverse.up (same_upd (S1.free np))))⟩⟩
  | _ => exact h1.elim)⟩
def oUn (f : D → Option (List D)) (a : ED) : AD := fun ρ => (a ρ).bind fun p => lift (f p.1) p.2
theorem w_ss {te : TE} {d : ED} (h : WE K mg W te d) : WO K mg W (tSS K te) (oUn ssO d) := ⟨fun Z C H Hf σ ρ Q S hp => h.run Z C H Hf σ ρ _ S (Post.bind hp fun x ρ1 v H1 Hf1 s1 S1 r h1 => by
  have fin : ∀ ns : List Int, Post K mg Z W C σ Hf1 (RO K mg C σ) Q (lift (if ns.length < 64 then some (iL (ssI ns)) else none) ρ1) → ns.length < 64 ∧ ∀ (ms : List Int) p, ms.Pairwise (· < ·) → (∀ k, k ∈ ms ↔ k ∈ ns) → H1 p = none → Q (.ref p) (upd H1 p (.lst (ms.map V.int))) := by
    intro ns h2
    split at h2
    · rename_i hl
      refine ⟨hl, fun ms p up mm np => ?_⟩
      have : ms = ssI ns := up_one up (ssI_up ns) fun z => by rw [mm z, ssI_mem]
      subst this
      exact newL S1 h2 (RpA.of_iL _) np
    · exact h2.elim
  cases x with
  | tup l => cases r with
    | @tup a xs _ e ra =>
      have h2 : Post K mg Z W C σ Hf1 (RO K mg C σ) Q (lift ((unI l).bind fun ns => if ns.length < 64 then some (iL (ssI ns)) else none) ρ1) := h1
      cases q : unI l with
      | none => rw [q] at h2; exact h2.elim
      | some ns =>
        rw [q] at h2
        have := unI_rp q ra
        subst this
        exact ⟨a, ns, rfl, .inl (tq S1.ff e), fin ns h2⟩
  | lst l => cases r with
    | @lst a xs _ e ra =>
      have h2 : Post K mg Z W C σ Hf1 (RO K mg C σ) Q (lift ((unI l).bind fun ns => if ns.length < 64 then some (iL (ssI ns)) else none) ρ1) := h1
      cases q : unI l with
      | none => rw [q] at h2; exact h2.elim
      | some ns =>
        rw [q] at h2
        have := unI_rp q ra
        subst this
        exact ⟨a, ns, rfl, .inr (.inl (.inl (S1.ff _ _ e))), fin ns h2⟩
  | _ => exact h1.elim)⟩
end
/-! ### raise X() -/
theorem pmk_own0 {X : Cx} {C : Addr} {bmB : List Value} {B newId initId : String} {x : Str} {p pos : Pos} (F : ExcBaseFacts B newId initId bmB) (q : PySem.W.excIn X.K C bmB newId = true) (gC : X.mg x = some (.ref C))
    (kC : PySem.W.keepIn X.K (.ref C) = true) (r : Raises X (.ref C)) (hg : Gl X x) (hdb : (x == ("__debug__" : Str)) = false := by decide) : PMk X (.Call (.Name x p) [] [] pos) (fun _ H Q => Q (.ref C) none H) := by
  intro pins s σ H Q I h
  refine wpAny_Call_Name_kw (ld_glob I hg gC ?_ hdb)
  refine PySem.W.callWith_K0 I.kIn kC ?_
  obtain ⟨bm, N, nm, qn, bs, hdct, sn, sub, ab, col, dd, k0, k1, k2, k3, k5, mN, hC, hN, hni, T⟩ := exc_obj I.kIn q
  refine wpAny_call_exc_subT F T hC hN hni (fun h' e hm => ?_) (Nat.zero_le _)
  exact mk_of I hm r h (I.hok.gone hm.new)
end DL

set_option Elab.async false
set_option linter.all false
set_option maxRecDepth 100000
set_option maxHeartbeats 4000000
/-! DL12: lists and dicts that a slot holds alone -/
namespace DL
open PySem PySem.Spec PyProof.Rows L2

/-- the list in slot i -/
def owAt (ρ : Rho) (i : Nat) : Option (Nat × List D) := match ρ[i]? with
  | some (some (.ow t l)) => some (t, l)
  | _ => none
def odAt (ρ : Rho) (i : Nat) : Option (List (List Int × D)) := match ρ[i]? with
  | some (some (.od l)) => some l
  | _ => none
theorem owAt_eq {ρ : Rho} {i t : Nat} {l : List D} (h : owAt ρ i = some (t, l)) : ρ[i]? = some (some (.ow t l)) := by
  unfold owAt at h
  split at h
  · rename_i e; cases h; exact e
  · cases h
theorem odAt_eq {ρ : Rho} {i : Nat} {l : List (List Int × D)} (h : odAt ρ i = some l) : ρ[i]? = some (some (.od l)) := by
  unfold odAt at h
  split at h
  · rename_i e; cases h; exact e
  · cases h
def sApp (i : Nat) (e : ED) : SD := fun ρ => match owAt ρ i with
  | some _ => (e ρ).bind fun p => match owAt p.2 i with
    | some (t, l) => if l.length < 1000000 then .ok (.nx (p.2.set i (some (.ow t (l ++ [p.1]))))) else .bad
    | none => .bad
  | none => .bad
def sExt (i : Nat) (e : ED) : SD := fun ρ => match owAt ρ i with
  | some _ => (e ρ).bind fun p => match owAt p.2 i, p.1 with
    | some (t, l), .lst m => if l.length + m.length ≤ 1000000 then .ok (.nx (p.2.set i (some (.ow t (l ++ m))))) else .bad
    | _, _ => .bad
  | none => .bad
def sPutL (i : Nat) (ix e : ED) : SD := fun ρ => (e ρ).bind fun p => match owAt p.2 i with
  | some _ => (ix p.2).bind fun q => match owAt q.2 i, q.1 with
    | some (t, l), .int k => (match ixN l.length k with
      | some j => .ok (.nx (q.2.set i (some (.ow t (l.set j p.1)))))
      | none => .bad)
    | _, _ => .bad
  | none => .bad
/-- x[e], x in slot i -/
def dIxV (i : Nat) (e : ED) : ED := fun ρ => match owAt ρ i with
  | some _ => (e ρ).bind fun p => match owAt p.2 i, p.1 with
    | some (_, l), .int k => lift (atI l k) p.2
    | _, _ => .bad
  | none => dOp idxD (dVar i) e ρ
/-- len(x), x in slot i -/
def dLenV (i : Nat) : ED := fun ρ => match owAt ρ i with
  | some (_, l) => .ok (.int l.length, ρ)
  | none => dCb lenD (aCons (dVar i) aNil) ρ
/-- x.pop() -/
def dPop (i : Nat) : ED := fun ρ => match owAt ρ i with
  | some (t, l) => (match l[l.length - 1]? with
    | some d => .ok (d, ρ.set i (some (.ow t l.dropLast)))
    | none => .bad)
  | none => .bad
/-! dicts -/
def keyD : D → Option (List Int)
  | .tup l => unI l
  | _ => none
def getK (l : List (List Int × D)) (k : List Int) : Option D := (l.find? fun kv => decide (kv.1 = k)).map (·.2)
def putK' (l : List (List Int × D)) (k : List Int) (v : D) : List (List Int × D) :=
  if (l.any fun kv => decide (kv.1 = k)) = true then l.map (fun kv => if kv.1 = k then (kv.1, v) else kv) else l ++ [(k, v)]
def sPutD (i : Nat) (k v : ED) : SD := fun ρ => (v ρ).bind fun p => match odAt p.2 i with
  | some _ => (k p.2).bind fun q => match odAt q.2 i, keyD q.1 with
    | some l, some kk => if l.length < 1000000 then .ok (.nx (q.2.set i (some (.od (putK' l kk p.1))))) else .bad
    | _, _ => .bad
  | none => .bad
/-- d.get(k, x), d in slot i -/
def dGetV (i : Nat) (k x : ED) : ED := fun ρ => match odAt ρ i with
  | some _ => (k ρ).bind fun p => (x p.2).bind fun q => match odAt q.2 i, keyD p.1 with
    | some l, some kk => .ok ((getK l kk).getD q.1, q.2)
    | _, _ => .bad
  | none => .bad
def dgD : D → D → Option D
  | .dic l, k => (keyD k).bind fun kk => getK l kk
  | _, _ => none
section
variable {K : PySem.W.Frag} {mg : Str → Option Value} {W : WX} {Z : Addr} {C H Hf H' Hf' : Hp} {σ : Sl} {ρ ρ' : Rho}
theorem Sm.owned (S : Sm K mg Z C H Hf σ ρ) {i t : Nat} {l : List D} (h : owAt ρ i = some (t, l)) : ∃ a xs, σ[i]? = some (some (.ref a)) ∧ H a = some (.lst xs) ∧ RpA K mg Hf l xs := by
  obtain ⟨v, e, a, xs, rfl, h1, _, _, h4, _⟩ := S.sl i _ (owAt_eq h)
  exact ⟨a, xs, e, h1, h4⟩
theorem Sm.ownedD (S : Sm K mg Z C H Hf σ ρ) {i : Nat} {l : List (List Int × D)} (h : odAt ρ i = some l) : ∃ a xs, σ[i]? = some (some (.ref a)) ∧ H a = some (.dT xs) ∧ RpK K mg Hf l xs := by
  obtain ⟨v, e, a, xs, rfl, h1, _, _, h4⟩ := S.sl i _ (odAt_eq h)
  exact ⟨a, xs, e, h1, h4⟩
theorem ref_eq {σ : Sl} {i : Nat} {a b : Addr} (h : σ[i]? = some (some (.ref a))) (h' : σ[i]? = some (some (.ref b))) : b = a := by rw [h] at h'; cases h'; rfl
theorem s_app {i : Nat} {te : TE} {e : ED} (he : WE K mg W te e) : WS K mg W (tDrop (tBM K "list" rAppend (tVar i) (tCons te tNil))) (sApp i e) := ⟨fun Z C H Hf σ ρ N S h => by
  unfold sApp at h
  cases q : owAt ρ i with
  | none => rw [q] at h; exact h.elim
  | some tl =>
    rw [q] at h
    obtain ⟨a, xs, es, ea, ra⟩ := S.owned q
    refine ⟨.ref a, es, .inl ⟨rfl, xs, .inl (.inl ea)⟩, he.run Z C H Hf σ ρ _ S (PostS.ebind h fun x ρ1 v H1 Hf1 s1 S1 r h1 => ?_)⟩
    dsimp only at h1
    cases q1 : owAt ρ1 i with
    | none => rw [q1] at h1; exact h1.elim
    | some tl1 =>
      obtain ⟨t1, l1⟩ := tl1
      rw [q1] at h1
      dsimp only at h1
      obtain ⟨a1, xs1, es1, ea1, ra1⟩ := S1.owned q1
      have := ref_eq es es1
      subst this
      split at h1
      · rename_i hl
        refine ⟨a1, xs1, v, rfl, rfl, ea1, ?_, h1 σ _ Hf1 (Same.refl _) (S1.chg (owAt_eq q1) es (ra1.append (.cons r .nil)))⟩
        have := ra1.length
        have z := sizeLine_eq
        omega
      · exact h1.elim⟩
theorem s_ext {i : Nat} {te : TE} {e : ED} (he : WE K mg W te e) : WS K mg W (tDrop (tBM K "list" rExtend (tVar i) (tCons te tNil))) (sExt i e) := ⟨fun Z C H Hf σ ρ N S h => by
  unfold sExt at h
  cases q : owAt ρ i with
  | none => rw [q] at h; exact h.elim
  | some tl =>
    rw [q] at h
    obtain ⟨a, xs, es, ea, ra⟩ := S.owned q
    refine ⟨.ref a, es, .inl ⟨rfl, xs, .inl (.inl ea)⟩, he.run Z C H Hf σ ρ _ S (PostS.ebind h fun x ρ1 v H1 Hf1 s1 S1 r h1 => ?_)⟩
    dsimp only at h1
    cases q1 : owAt ρ1 i with
    | none => rw [q1] at h1; exact h1.elim
    | some tl1 =>
      obtain ⟨t1, l1⟩ := tl1
      rw [q1] at h1
      obtain ⟨a1, xs1, es1, ea1, ra1⟩ := S1.owned q1
      have := ref_eq es es1
      subst this
      cases x with
      | lst m =>
        dsimp only at h1
        split at h1
        · rename_i hl
          cases r with
          | @lst b ys _ eb rb =>
            refine ⟨a1, b, xs1, ys, rfl, rfl, ea1, S1.ff _ _ eb, sz_ok (by rw [← ra1.length, ← rb.length]; exact hl), h1 σ _ Hf1 (Same.refl _) (S1.chg (owAt_eq q1) es (ra1.append rb))⟩
        · exact h1.elim
      | _ => exact h1.elim⟩
theorem s_putL {i : Nat} {te ti : TE} {e ix : ED} (he : WE K mg W te e) (hi : WE K mg W ti ix) : WS K mg W (tAsg te (gSub (tVar i) ti rSetL)) (sPutL i ix e) := ⟨fun Z C H Hf σ ρ N S h => by
  refine he.run Z C H Hf σ ρ _ S (PostS.ebind h fun x ρ1 v H1 Hf1 s1 S1 r h1 => ?_)
  dsimp only at h1
  cases q : owAt ρ1 i with
  | none => rw [q] at h1; exact h1.elim
  | some tl =>
    rw [q] at h1
    obtain ⟨a, xs, es, ea, ra⟩ := S1.owned q
    refine ⟨.ref a, es, hi.run Z C H1 Hf1 σ ρ1 _ S1 (PostS.ebind h1 fun y ρ2 u H2 Hf2 s2 S2 ry h2 => ?_)⟩
    dsimp only at h2
    cases q1 : owAt ρ2 i with
    | none => rw [q1] at h2; exact h2.elim
    | some tl1 =>
      obtain ⟨t1, l1⟩ := tl1
      rw [q1] at h2
      obtain ⟨a1, xs1, es1, ea1, ra1⟩ := S2.owned q1
      have := ref_eq es es1
      subst this
      cases y with
      | int k =>
        dsimp only at h2
        cases ry
        cases q2 : ixN l1.length k with
        | none => rw [q2] at h2; exact h2.elim
        | some j =>
          rw [q2] at h2
          refine ⟨a1, xs1, k, j, rfl, rfl, ea1, by rw [← ra1.length]; exact q2, ?_⟩
          exact h2 σ _ Hf2 (Same.refl _) (S2.chg (owAt_eq q1) es (RpA.set (r.up s2) j ra1))
      | _ => exact h2.elim⟩
theorem w_ixV {i : Nat} {ti : TE} {ix : ED} (hi : WE K mg W ti ix) : WE K mg W (tOp (rIx K) (tVar i) ti) (dIxV i ix) := ⟨fun Z C H Hf σ ρ Q S h => by
  unfold dIxV at h
  cases q : owAt ρ i with
  | none => rw [q] at h; exact (w_op o_idx (w_var i) hi).run Z C H Hf σ ρ Q S h
  | some tl =>
    rw [q] at h
    obtain ⟨a, xs, es, ea, ra⟩ := S.owned q
    refine ⟨.ref a, es, hi.run Z C H Hf σ ρ _ S (Post.bind h fun y ρ2 u H2 Hf2 s2 S2 ry h2 => ?_)⟩
    dsimp only at h2
    cases q1 : owAt ρ2 i with
    | none => rw [q1] at h2; exact h2.elim
    | some tl1 =>
      obtain ⟨t1, l1⟩ := tl1
      rw [q1] at h2
      obtain ⟨a1, xs1, es1, ea1, ra1⟩ := S2.owned q1
      have := ref_eq es es1
      subst this
      cases y with
      | int k =>
        cases ry
        dsimp only at h2
        cases q2 : atI l1 k with
        | none => rw [q2] at h2; exact h2.elim
        | some d =>
          rw [q2] at h2
          obtain ⟨v, ev, rv⟩ := atI_rp ra1 q2
          exact .inl ⟨a1, xs1, k, v, rfl, rfl, .inl (.inl ea1), ev, h2.done S2 rv⟩
      | _ => exact h2.elim⟩
theorem w_lenV {i : Nat} : WE K mg W (tCB (fun xs H Q => ∃ x n, xs = [x] ∧ LenV K x H n ∧ Q (.int n) H) (tCons (tVar i) tNil)) (dLenV i) := ⟨fun Z C H Hf σ ρ Q S h => by
  unfold dLenV at h
  cases q : owAt ρ i with
  | none => rw [q] at h; exact (w_cb c_len (w_cons (w_var i) w_nil)).run Z C H Hf σ ρ Q S h
  | some tl =>
    obtain ⟨t, l⟩ := tl
    rw [q] at h
    obtain ⟨a, xs, es, ea, ra⟩ := S.owned q
    exact ⟨.ref a, es, .ref a, xs.length, rfl, .inl ⟨xs, .inl (.inl ea), rfl⟩, by rw [← ra.length]; exact h.done S (.int _)⟩⟩
theorem w_pop {i : Nat} : WE K mg W (tBM0 K "list" rPop (tVar i)) (dPop i) := ⟨fun Z C H Hf σ ρ Q S h => by
  unfold dPop at h
  cases q : owAt ρ i with
  | none => rw [q] at h; exact h.elim
  | some tl =>
    obtain ⟨t, l⟩ := tl
    rw [q] at h
    dsimp only at h
    obtain ⟨a, xs, es, ea, ra⟩ := S.owned q
    cases q2 : l[l.length - 1]? with
    | none => rw [q2] at h; exact h.elim
    | some d =>
      rw [q2] at h
      obtain ⟨v, ev, rv⟩ := ra.get q2
      refine ⟨.ref a, es, .inl ⟨rfl, xs, .inl (.inl ea)⟩, a, xs, v, rfl, rfl, ea, by rw [← ra.length]; exact ev, ?_⟩
      exact h v _ Hf (Same.refl _) (S.chg (owAt_eq q) es ra.dropLast) rv⟩
/-! dicts -/
theorem key_eq {a b : List Int} : (a.map (Sum.inl : Int → Key) = b.map Sum.inl) ↔ a = b := by
  constructor
  · intro h
    have := congrArg (List.map (fun k : Key => match k with | .inl i => i | .inr _ => 0)) h
    simpa [List.map_map, Function.comp_def] using this
  · intro h; rw [h]
theorem RpK.val {l : List (List Int × D)} {kvs : List (List Key × V)} (r : RpK K mg Hf l kvs) (k : List Int) :
    (getK l k = none ∧ valV kvs (k.map Sum.inl) = none) ∨ ∃ d v, getK l k = some d ∧ valV kvs (k.map Sum.inl) = some v ∧ Rp K mg Hf d v := by
  induction l generalizing kvs with
  | nil => cases r; exact .inl ⟨rfl, rfl⟩
  | cons p l ih =>
    obtain ⟨k', d⟩ := p
    cases r with
    | @cons _ _ _ v vs r1 r2 =>
      by_cases e : k' = k
      · subst e
        exact .inr ⟨d, v, by simp [getK], by simp [valV], r1⟩
      · have e' : ¬ (k'.map (Sum.inl : Int → Key) = k.map Sum.inl) := fun z => e (key_eq.mp z)
        have g1 : getK ((k', d) :: l) k = getK l k := by simp [getK, e]
        have g2 : valV ((k'.map (Sum.inl : Int → Key), v) :: vs) (k.map Sum.inl) = valV vs (k.map Sum.inl) := valV_neg e'
        rw [g1, g2]
        exact ih r2
theorem RpK.any {l : List (List Int × D)} {kvs : List (List Key × V)} (r : RpK K mg Hf l kvs) (k : List Int) :
    (l.any fun kv => decide (kv.1 = k)) = (kvs.any fun kv => decide (kv.1 = k.map Sum.inl)) := by
  induction l generalizing kvs with
  | nil => cases r; rfl
  | cons p l ih =>
    obtain ⟨k', d⟩ := p
    cases r with
    | @cons _ _ _ v vs r1 r2 =>
      rw [List.any_cons, List.any_cons, ih r2]
      have : decide (k' = k) = decide (k'.map (Sum.inl : Int → Key) = k.map Sum.inl) := by
        by_cases e : k' = k
        · rw [decide_eq_true e, decide_eq_true (key_eq.mpr e)]
        · rw [decide_eq_false e, decide_eq_false fun z => e (key_eq.mp z)]
      rw [this]
theorem RpK.chg {l : List (List Int × D)} {kvs : List (List Key × V)} (r : RpK K mg Hf l kvs) (k : List Int) {d : D} {v : V} (rv : Rp K mg Hf d v) :
    RpK K mg Hf (l.map (fun kv => if kv.1 = k then (kv.1, d) else kv)) (kvs.map (fun kv => if kv.1 = k.map Sum.inl then (kv.1, v) else kv)) := by
  induction l generalizing kvs with
  | nil => cases r; exact .nil
  | cons p l ih =>
    obtain ⟨k', d'⟩ := p
    cases r with
    | @cons _ _ _ v' vs r1 r2 =>
      rw [List.map_cons, List.map_cons]
      by_cases e : k' = k
      · subst e
        rw [if_pos rfl, if_pos rfl]
        exact .cons rv (ih r2)
      · rw [if_neg e, if_neg (fun z => e (key_eq.mp z))]
        exact .cons r1 (ih r2)
theorem RpK.snoc {l : List (List Int × D)} {kvs : List (List Key × V)} (r : RpK K mg Hf l kvs) (k : List Int) {d : D} {v : V} (rv : Rp K mg Hf d v) : RpK K mg Hf (l ++ [(k, d)]) (kvs ++ [(k.map Sum.inl, v)]) := by
  induction l generalizing kvs with
  | nil => cases r; exact .cons rv .nil
  | cons p l ih =>
    obtain ⟨k', d'⟩ := p
    cases r with
    | cons r1 r2 => exact .cons r1 (ih r2)
theorem RpK.put {l : List (List Int × D)} {kvs : List (List Key × V)} (r : RpK K mg Hf l kvs) (k : List Int) {d : D} {v : V} (rv : Rp K mg Hf d v) : RpK K mg Hf (putK' l k d) (putK kvs (k.map Sum.inl) v) := by
  unfold putK' putK
  rw [r.any k]
  split
  · exact r.chg k rv
  · exact r.snoc k rv
theorem RpK.length {l : List (List Int × D)} {kvs : List (List Key × V)} (r : RpK K mg Hf l kvs) : l.length = kvs.length := by
  induction l generalizing kvs with
  | nil => cases r; rfl
  | cons p l ih => cases r with
    | cons r1 r2 => rw [List.length_cons, List.length_cons, ih r2]
theorem keyD_rp {d : D} {k : List Int} {v : V} (h : keyD d = some k) (r : Rp K mg Hf d v) : ∃ b, v = .ref b ∧ Hf b = some (.tup ((k.map (Sum.inl : Int → Key)).map kV)) := by
  cases d with
  | tup l =>
    cases r with
    | @tup a xs _ e ra =>
      have := unI_rp (show unI l = some k from h) ra
      subst this
      refine ⟨a, rfl, ?_⟩
      rw [e, List.map_map]
      rfl
  | _ => cases h
theorem s_putD {i : Nat} {tk tv : TE} {k v : ED} (hk : WE K mg W tk k) (hv : WE K mg W tv v) : WS K mg W (sDPut (tVar i) tk tv) (sPutD i k v) := ⟨fun Z C H Hf σ ρ N S h => by
  refine hv.run Z C H Hf σ ρ _ S (PostS.ebind h fun x ρ1 u H1 Hf1 s1 S1 r h1 => ?_)
  dsimp only at h1
  cases q : odAt ρ1 i with
  | none => rw [q] at h1; exact h1.elim
  | some l =>
    rw [q] at h1
    obtain ⟨a, xs, es, ea, ra⟩ := S1.ownedD q
    refine ⟨.ref a, es, hk.run Z C H1 Hf1 σ ρ1 _ S1 (PostS.ebind h1 fun y ρ2 w H2 Hf2 s2 S2 ry h2 => ?_)⟩
    dsimp only at h2
    cases q1 : odAt ρ2 i with
    | none => rw [q1] at h2; exact h2.elim
    | some l1 =>
      rw [q1] at h2
      obtain ⟨a1, xs1, es1, ea1, ra1⟩ := S2.ownedD q1
      have := ref_eq es es1
      subst this
      cases q2 : keyD y with
      | none => rw [q2] at h2; exact h2.elim
      | some kk =>
        rw [q2] at h2
        dsimp only at h2
        split at h2
        · rename_i hl
          obtain ⟨b, rfl, eb⟩ := keyD_rp q2 ry
          have hz : xs1.length < sizeLine := by have := ra1.length; have z := sizeLine_eq; omega
          refine ⟨a1, _, rfl, DPut.t (k := kk.map Sum.inl) ea1 (S2.ff _ _ eb) hz, ?_⟩
          exact h2 σ _ Hf2 (Same.refl _) (S2.chgD (odAt_eq q1) es (ra1.put kk (r.up s2)))
        · exact h2.elim⟩
theorem w_getV {i : Nat} {tk tx : TE} {k x : ED} (hk : WE K mg W tk k) (hx : WE K mg W tx x) : WE K mg W (tDGet2 (tVar i) tk tx) (dGetV i k x) := ⟨fun Z C H Hf σ ρ Q S h => by
  unfold dGetV at h
  cases q : odAt ρ i with
  | none => rw [q] at h; exact h.elim
  | some l =>
    rw [q] at h
    obtain ⟨a, xs, es, ea, ra⟩ := S.ownedD q
    refine ⟨.ref a, es, a, rfl, .inr ⟨xs, .inl ea⟩, hk.run Z C H Hf σ ρ _ S (Post.bind h fun y ρ1 u H1 Hf1 s1 S1 ry h1 => hx.run Z C H1 Hf1 σ ρ1 _ S1 (Post.bind h1 fun z ρ2 w H2 Hf2 s2 S2 rz h2 => ?_))⟩
    dsimp only at h2
    cases q1 : odAt ρ2 i with
    | none => rw [q1] at h2; exact h2.elim
    | some l1 =>
      rw [q1] at h2
      obtain ⟨a1, xs1, es1, ea1, ra1⟩ := S2.ownedD q1
      have := ref_eq es es1
      subst this
      cases q2 : keyD y with
      | none => rw [q2] at h2; exact h2.elim
      | some kk =>
        rw [q2] at h2
        obtain ⟨b, rfl, eb⟩ := keyD_rp q2 (ry.up s2)
        refine ⟨_, DGet.t (k := kk.map Sum.inl) ea1 (S2.ff _ _ eb), ?_⟩
        rcases ra1.val kk with ⟨g1, g2⟩ | ⟨d, v, g1, g2, rv⟩
        · dsimp only at h2
          rw [g1] at h2
          rw [g2]
          exact h2.done S2 rz
        · dsimp only at h2
          rw [g1] at h2
          rw [g2]
          exact h2.done S2 rv⟩
/-- d[k] of a dict that stays -/
theorem w_dg {td tk : TE} {d k : ED} (hd : WE K mg W td d) (hk : WE K mg W tk k) : WE K mg W (tDGet td tk) (dOp dgD d k) := ⟨fun Z C H Hf σ ρ Q S h =>
  hd.run Z C H Hf σ ρ _ S (Post.bind h fun x ρ1 v H1 Hf1 s1 S1 rx h1 => hk.run Z C H1 Hf1 σ ρ1 _ S1 (Post.bind h1 fun y ρ2 u H2 Hf2 s2 S2 ry h2 => by
    dsimp only at h2
    cases x with
    | dic l =>
      have h3 : Post K mg Z W C σ Hf2 (RD K mg) Q (lift ((keyD y).bind fun kk => getK l kk) ρ2) := h2
      cases q2 : keyD y with
      | none => rw [q2] at h3; exact h3.elim
      | some kk =>
        rw [q2] at h3
        cases rx.up s2 with
        | @dic a kvs _ e ra =>
          obtain ⟨b, rfl, eb⟩ := keyD_rp q2 ry
          rcases ra.val kk with ⟨g1, g2⟩ | ⟨d, v, g1, g2, rv⟩
          · rw [Option.bind_some, g1] at h3; exact h3.elim
          · rw [Option.bind_some, g1] at h3
            exact ⟨a, v, rfl, g2 ▸ .inr ⟨kvs, kk.map Sum.inl, b, e.elim (fun e => .inl (S2.ff _ _ e)) fun ⟨o, e⟩ => .inr ⟨o, S2.ff _ _ e⟩, rfl, S2.ff _ _ eb, rfl⟩, h3.done S2 rv⟩
    | _ => exact h2.elim))⟩
end
end DL

set_option Elab.async false
set_option linter.all false
set_option maxRecDepth 100000
set_option maxHeartbeats 2000000
/-! DL14: one rule a construct: the syntax, its reading, its data -/
namespace DL
open PySem PySem.Spec PyProof.Rows L2

structure DE (X : Cx) (W : WX) (e : Expr) (t : TE) (d : ED) : Prop where
  p : PE X e t
  w : WE X.K X.mg W t d
structure DO (X : Cx) (W : WX) (e : Expr) (t : TE) (d : AD) : Prop where
  p : PE X e t
  w : WO X.K X.mg W t d
structure DA (X : Cx) (W : WX) (es : List Expr) (t : TA) (d : AD) : Prop where
  p : PA X es t
  w : WA X.K X.mg W t d
structure DT (X : Cx) (W : WX) (e : Expr) (t : TT) (d : TD) : Prop where
  p : PT X e t
  w : WT X.K X.mg W t d
structure DQ (X : Cx) (W : WX) (e : Expr) (t : TT) (d : TD) : Prop where
  p : PW X e t
  w : WT X.K X.mg W t d
structure DTs (X : Cx) (W : WX) (es : List Expr) (t : TT) (d : TD) : Prop where
  p : PTs X es t
  w : WT X.K X.mg W t d
structure DI (X : Cx) (W : WX) (tg e : Expr) (t : TI) (d : ID) : Prop where
  p : PI X tg e t
  w : WI X.K X.mg W t d
structure DG (X : Cx) (e : Expr) (t : TG) (d : GD) : Prop where
  p : PG X e t
  w : WG X.K X.mg t d
  c : Calm d
structure DGs (X : Cx) (es : List Expr) (t : TGs) (d : GsD) : Prop where
  p : PGs X es t
  w : WGs X.K X.mg t d
  c : CalmS d
structure DV (X : Cx) (vs : List Nat) (e : Expr) (t : TG) (d : GD) : Prop where
  p : PG X e t
  w : WV X.K X.mg vs t d
structure DVs (X : Cx) (vs : List Nat) (es : List Expr) (t : TGs) (d : GsD) : Prop where
  p : PGs X es t
  w : WVs X.K X.mg vs t d
structure DP (X : Cx) (W : WX) (e : Option Expr) (t : TO) (d : OD) : Prop where
  p : PO X e t
  w : WP X.K X.mg W t d
structure DS (X : Cx) (W : WX) (st : Stmt) (t : TS) (d : SD) : Prop where
  p : PS X st t
  w : WS X.K X.mg W t d
structure DSs (X : Cx) (W : WX) (st : List Stmt) (t : TS) (d : SD) : Prop where
  p : PSs X st t
  w : WS X.K X.mg W t d
/-- the built-ins that a text names are its own nowhere -/
structure Bt (mg : Str → Option Value) : Prop where
  len : mg "len" = none
  abs : mg "abs" = none
  int : mg "int" = none
  bool : mg "bool" = none
  str : mg "str" = none
  list : mg "list" = none
  tuple : mg "tuple" = none
  set : mg "set" = none
  range : mg "range" = none
  isinstance : mg "isinstance" = none
  sorted : mg "sorted" = none
  all : mg "all" = none
  any : mg "any" = none
  max : mg "max" = none
  min : mg "min" = none
  sum : mg "sum" = none
  enumerate : mg "enumerate" = none
  zip : mg "zip" = none
/-- an own error without own __init__ -/
structure Er (K : PySem.W.Frag) (mg : Str → Option Value) (x : Str) : Prop where
  ex : ∃ C, mg x = some (.ref C) ∧ PySem.W.excIn K C He.veBase "ValueError.__new__" = true ∧ PySem.W.keepIn K (.ref C) = true ∧ PySem.W.subIn K (.ref C) (.type "BaseException") = some true ∧ PySem.W.typeIn K (.ref C) = some (.type "type")
abbrev rLn (K : PySem.W.Frag) : List V → Hp → VK → Prop := fun xs H Q => ∃ x n, xs = [x] ∧ LenV K x H n ∧ Q (.int n) H
abbrev rAb : List V → Hp → VK → Prop := fun xs H Q => ∃ i, xs = [.int i] ∧ Q (.int (if i < 0 then -i else i)) H
abbrev rIt : List V → Hp → VK → Prop := fun xs H Q => (∃ i, xs = [.int i] ∧ Q (.int i) H) ∨ ∃ k, xs = [.bl k] ∧ Q (.int (if k then 1 else 0)) H
abbrev rX2 : List V → Hp → VK → Prop := fun xs H Q => ∃ i j, xs = [.int i, .int j] ∧ Q (.int (if j > i then j else i)) H
abbrev rN2 : List V → Hp → VK → Prop := fun xs H Q => ∃ i j, xs = [.int i, .int j] ∧ Q (.int (if j < i then j else i)) H
abbrev rTp (K : PySem.W.Frag) : List V → Hp → VK → Prop := fun xs H Q => ∃ p ys, xs = [.ref p] ∧ ((SqL K H p ys ∧ ∀ l, H l = none → Q (.ref l) (upd H l (.tup ys))) ∨ (SqT K H p ys ∧ Q (.ref p) H))
abbrev rLs (K : PySem.W.Frag) : List V → Hp → VK → Prop := fun xs H Q => ∃ p ys, xs = [.ref p] ∧ (SqL K H p ys ∨ SqT K H p ys) ∧ ∀ l, H l = none → Q (.ref l) (upd H l (.lst ys))
/-! ### expressions -/
section
variable {X : Cx} {W : WX} {a b c e : Expr} {es : List Expr} {pos : Pos} {ta tb tc te : TE} {da db dc de : ED} {t : TA} {d : AD} {x : Str} {p : Pos}
theorem e_var (i : Nat) {x : Str} {pos : Pos} (hN : X.N[i]? = some x := by rfl) (hv : Vis X.env.scope x := by first | exact Or.inl rfl | exact Or.inr (Or.inl rfl) | exact Or.inr (Or.inr rfl)) (hd : (x == ("__debug__" : Str)) = false := by decide)
    (hcd : (x == ("__classdict__" : Str)) = false := by decide) : DE X W (.Name x pos) (tVar i) (dVar i) := ⟨pe_var hN hv hd hcd, w_var i⟩
theorem e_int {i : Int} {j : Nat} : DE X W (.Constant (.int i) j pos) (tC (.int i)) (dC (.int i)) := ⟨pe_int, w_c fun _ => .int i⟩
theorem e_bl {b : Bool} {j : Nat} : DE X W (.Constant (.bool b) j pos) (tC (.bl b)) (dC (.bl b)) := ⟨pe_bl, w_c fun _ => .bl b⟩
theorem e_non {j : Nat} : DE X W (.Constant .none j pos) (tC .non) (dC .non) := ⟨pe_non, w_c fun _ => .non⟩
theorem e_str {s : Str} {j : Nat} : DE X W (.Constant (.str s) j pos) (tC (.str s)) (dC (.str s)) := ⟨pe_str, w_c fun _ => .str s⟩
theorem e_gint {i : Int} (hm : ∃ t, X.mg x = some (.int i t)) (hg : Gl X x := by rfl) (hd : (x == ("__debug__" : Str)) = false := by decide) : DE X W (.Name x pos) (tC (.int i)) (dC (.int i)) :=
  ⟨let ⟨t, hm⟩ := hm; pe_glob hg hm ⟨t, rfl⟩ hd, w_c fun _ => .int i⟩
theorem e_add (ha : DE X W a ta da) (hb : DE X W b tb db) : DE X W (.BinOp a .Add b pos) (tOp (rAddU X.K) ta tb) (dOp addD da db) := ⟨pe_op opAddU ha.p hb.p, w_op o_add ha.w hb.w⟩
theorem e_sub (ha : DE X W a ta da) (hb : DE X W b tb db) : DE X W (.BinOp a .Sub b pos) (tOp (rI0 fun i j => .int (i - j)) ta tb) (dOp subD da db) := ⟨pe_op op_sub ha.p hb.p, w_op o_sub ha.w hb.w⟩
theorem e_mul (ha : DE X W a ta da) (hb : DE X W b tb db) : DE X W (.BinOp a .Mult b pos) (tOp (rMulU X.K) ta tb) (dOp mulD da db) := ⟨pe_op opMulU ha.p hb.p, w_op o_mul ha.w hb.w⟩
theorem e_mod (ha : DE X W a ta da) (hb : DE X W b tb db) : DE X W (.BinOp a .Mod b pos) (tOp (rI (fun _ j => 0 < j) fun i j => .int (i % j)) ta tb) (dOp modD da db) := ⟨pe_op op_mod ha.p hb.p, w_op o_mod ha.w hb.w⟩
theorem e_fdiv (ha : DE X W a ta da) (hb : DE X W b tb db) : DE X W (.BinOp a .FloorDiv b pos) (tOp (rI CDiv fun i j => .int (i / j)) ta tb) (dOp fdivD da db) := ⟨pe_op op_fdiv ha.p hb.p, w_op o_fdiv ha.w hb.w⟩
theorem e_pow (ha : DE X W a ta da) (hb : DE X W b tb db) : DE X W (.BinOp a .Pow b pos) (tOp (rI CPow fun i j => .int (i ^ j.toNat)) ta tb) (dOp powD da db) := ⟨pe_op op_pow ha.p hb.p, w_op o_pow ha.w hb.w⟩
theorem e_neg (ha : DE X W a ta da) : DE X W (.UnaryOp .USub a pos) (tUn (rU fun i => .int (-i)) ta) (dUn negD da) := ⟨pe_un un_neg ha.p, w_un o_neg ha.w⟩
theorem e_not (ha : DE X W a ta da) : DE X W (.UnaryOp .Not a pos) (tNotV ta) (dUn notD da) := ⟨pe_not ha.p, w_not ha.w⟩
theorem e_one {op : BoolOp} (ha : DE X W a ta da) : DE X W (.BoolOp op [a] pos) ta da := ⟨pe_one ha.p, ha.w⟩
theorem e_and {rest : List Expr} (ha : DE X W a ta da) (hb : DE X W (.BoolOp .And (b :: rest) pos) tb db) : DE X W (.BoolOp .And (a :: b :: rest) pos) (tAndV ta tb) (dAnd da db) := ⟨pe_and ha.p hb.p, w_and ha.w hb.w⟩
theorem e_or {rest : List Expr} (ha : DE X W a ta da) (hb : DE X W (.BoolOp .Or (b :: rest) pos) tb db) : DE X W (.BoolOp .Or (a :: b :: rest) pos) (tOrV ta tb) (dOr da db) := ⟨pe_or ha.p hb.p, w_or ha.w hb.w⟩
theorem e_lt (ha : DE X W a ta da) (hb : DE X W b tb db) : DE X W (.Compare a [.Lt] [b] pos) (tOp (rI0 fun i j => .bl (decide (i < j))) ta tb) (dOp ltD da db) := ⟨pe_cmpR op_lt ha.p hb.p (nomark _), w_op o_cmp ha.w hb.w⟩
theorem e_le (ha : DE X W a ta da) (hb : DE X W b tb db) : DE X W (.Compare a [.LtE] [b] pos) (tOp (rI0 fun i j => .bl (decide (i ≤ j))) ta tb) (dOp leD da db) := ⟨pe_cmpR op_le ha.p hb.p (nomark _), w_op o_cmp ha.w hb.w⟩
theorem e_gt (ha : DE X W a ta da) (hb : DE X W b tb db) : DE X W (.Compare a [.Gt] [b] pos) (tOp (rI0 fun i j => .bl (decide (j < i))) ta tb) (dOp gtD da db) := ⟨pe_cmpR op_gt ha.p hb.p (nomark _), w_op o_cmp ha.w hb.w⟩
theorem e_ge (ha : DE X W a ta da) (hb : DE X W b tb db) : DE X W (.Compare a [.GtE] [b] pos) (tOp (rI0 fun i j => .bl (decide (j ≤ i))) ta tb) (dOp geD da db) := ⟨pe_cmpR op_ge ha.p hb.p (nomark _), w_op o_cmp ha.w hb.w⟩
theorem e_eq {k : Nat} (hr : Room k X.A) (ha : DE X W a ta da) (hb : DE X W b tb db) : DE X W (.Compare a [.Eq] [b] pos) (tOp (rEqD X.K) ta tb) (dOp eqD da db) := ⟨pe_cmpR (op_eqD hr.units) ha.p hb.p (nomark _), w_op o_eq ha.w hb.w⟩
theorem e_ne {k : Nat} (hr : Room k X.A) (ha : DE X W a ta da) (hb : DE X W b tb db) : DE X W (.Compare a [.NotEq] [b] pos) (tOp (rNeD X.K) ta tb) (dOp neD da db) := ⟨pe_cmpR (op_neD hr.units) ha.p hb.p (nomark _), w_op o_ne ha.w hb.w⟩
theorem e_is (ha : DE X W a ta da) (hb : DE X W b tb db) : DE X W (.Compare a [.Is] [b] pos) (tOp (fun x y H Q => y = .non ∧ Q (.bl (decide (x = .non))) H) ta tb) (dOp isN da db) := ⟨pe_cmpR op_isN ha.p hb.p (nomark _), w_op o_isN ha.w hb.w⟩
theorem e_isnt (ha : DE X W a ta da) (hb : DE X W b tb db) : DE X W (.Compare a [.IsNot] [b] pos) (tOp (fun x y H Q => y = .non ∧ Q (.bl (!decide (x = .non))) H) ta tb) (dOp notN da db) := ⟨pe_cmpR op_notN ha.p hb.p (nomark _), w_op o_notN ha.w hb.w⟩
theorem e_in (ha : DE X W a ta da) (hb : DE X W b tb db) (hm : behindInMarks .In b = false := by rfl) : DE X W (.Compare a [.In] [b] pos) (tOp (rIn X.K false) ta tb) (dOp inD da db) := ⟨pe_cmpR op_in_seq ha.p hb.p hm, w_op o_in ha.w hb.w⟩
theorem e_nin (ha : DE X W a ta da) (hb : DE X W b tb db) (hm : behindInMarks .NotIn b = false := by rfl) : DE X W (.Compare a [.NotIn] [b] pos) (tOp (rIn X.K true) ta tb) (dOp ninD da db) := ⟨pe_cmpR op_notIn_seq ha.p hb.p hm, w_op o_nin ha.w hb.w⟩
theorem e_lele (ha : DE X W a ta da) (hb : DE X W b tb db) (hc : DE X W c tc dc) (hm : lastMarks [.LtE, .LtE] [b, c] = false := by with_unfolding_all rfl) :
    DE X W (.Compare a [.LtE, .LtE] [b, c] pos) (tChain (rI0 fun i j => .bl (decide (i ≤ j))) (rI0 fun i j => .bl (decide (i ≤ j))) ta tb tc) (dChain leD leD da db dc) :=
  ⟨pe_chain op_le op_le ha.p hb.p hc.p hm, w_chain o_cmpB cm_b o_cmp ha.w hb.w hc.w⟩
theorem e_if {tt : TT} {dt : TD} (hc : DT X W c tt dt) (ha : DE X W a ta da) (hb : DE X W b tb db) : DE X W (.IfExp c a b pos) (L2.tIf tt ta tb) (dIf dt da db) := ⟨pe_ifExp hc.p ha.p hb.p, w_if hc.w ha.w hb.w⟩
/-! arguments, displays -/
theorem a_nil : DA X W [] tNil aNil := ⟨pa_nil, w_nil⟩
theorem a_cons {tr : TA} {dr : AD} (ha : DE X W e te de) (hr : DA X W es tr dr) (hs : starEach (e :: es) X.env = (false, eval e X.env) :: starEach es X.env := by rfl) : DA X W (e :: es) (tCons te tr) (aCons de dr) := ⟨pa_cons ha.p hr.p hs, w_cons ha.w hr.w⟩
theorem e_tup {k : Nat} (h : DA X W es t d) : DE X W (.Tuple es k pos) (tTup t) (dTup d) := ⟨pe_tup h.p, w_tup h.w⟩
theorem x_lst (h : DA X W es t d) : DO X W (.List es pos) (tLst t) (oLst d) := ⟨pe_lst h.p, w_lstO h.w⟩
theorem e_fz {t : TE} {o : AD} (h : DO X W e t o) : DE X W e t (dFz o) := ⟨h.p, w_fz h.w⟩
/-! tests -/
theorem t_val {t : TE} {d : ED} (h : DE X W e t d) (he : ∀ whole, isTrue e X.env whole = (do let v ← whole; standAt e.pos; holding [v] (truthy v)) := by intro _; rfl) : DT X W e (tB t) (tBl d) := ⟨pt_val h.p he, w_bl h.w⟩
theorem t_not {tt : TT} {dt : TD} (h : DT X W a tt dt) : DT X W (.UnaryOp .Not a pos) (tNot tt) (tNo dt) := ⟨pt_not h.p, w_no h.w⟩
theorem t_q {tt : TT} {dt : TD} (h : DQ X W a tt dt) : DT X W a tt dt := ⟨h.p.pt, h.w⟩
theorem q_and1 {tt : TT} {dt : TD} (h : DT X W a tt dt) : DQ X W (.BoolOp .And [a] pos) tt dt := ⟨pw_and1 h.p, h.w⟩
theorem q_or1 {tt : TT} {dt : TD} (h : DT X W a tt dt) : DQ X W (.BoolOp .Or [a] pos) tt dt := ⟨pw_or1 h.p, h.w⟩
theorem q_and {rest : List Expr} {tt ut : TT} {dt du : TD} (h : DT X W a tt dt) (h2 : DQ X W (.BoolOp .And (b :: rest) pos) ut du) : DQ X W (.BoolOp .And (a :: b :: rest) pos) (tAnd tt ut) (tAn dt du) := ⟨pw_and h.p h2.p, w_an h.w h2.w⟩
theorem q_or {rest : List Expr} {tt ut : TT} {dt du : TD} (h : DT X W a tt dt) (h2 : DQ X W (.BoolOp .Or (b :: rest) pos) ut du) : DQ X W (.BoolOp .Or (a :: b :: rest) pos) (L2.tOr tt ut) (tOR dt du) := ⟨pw_or h.p h2.p, w_oR h.w h2.w⟩
/-! items, slices -/
theorem e_ix (ha : DE X W a ta da) (hb : DE X W b tb db) (hs : PlainIx b := by intro _ _; rfl) : DE X W (.Subscript a b pos) (tOp (rIx X.K) ta tb) (dOp idxD da db) := ⟨pe_ix ix_seq ha.p hb.p hs, w_op o_idx ha.w hb.w⟩
theorem e_ixV (i : Nat) {x : Str} {p : Pos} (hb : DE X W b tb db) (hs : PlainIx b := by intro _ _; rfl) (hN : X.N[i]? = some x := by rfl) (hv : Vis X.env.scope x := by first | exact Or.inl rfl | exact Or.inr (Or.inl rfl) | exact Or.inr (Or.inr rfl))
    (hd : (x == ("__debug__" : Str)) = false := by decide) (hcd : (x == ("__classdict__" : Str)) = false := by decide) : DE X W (.Subscript (.Name x p) b pos) (tOp (rIx X.K) (tVar i) tb) (dIxV i db) := ⟨pe_ix ix_seq (pe_var hN hv hd hcd) hb.p hs, w_ixV hb.w⟩
theorem p_non : DP X W none tNoPart pNo := ⟨po_none, p_no⟩
theorem p_som (h : DE X W e te de) : DP X W (some e) (tPart te) (pSome de) := ⟨po_some h.p, p_some h.w⟩
theorem e_sl {lo hi : Option Expr} {tl th : TO} {dl dh : OD} {p2 : Pos} (he : DE X W e te de) (hl : DP X W lo tl dl) (hu : DP X W hi th dh) : DE X W (.Subscript e (.Slice lo hi none p2) pos) (tSl (rSlU X.K) te tl th) (dSl de dl dh) := ⟨pe_slice slU he.p hl.p hu.p, w_sl he.w hl.w hu.w⟩
theorem e_down {k : Nat} {p1 p2 p3 : Pos} (he : DE X W e te de) : DE X W (.Subscript e (.Slice none none (some (.UnaryOp .USub (.Constant (.int 1) k p1) p2)) p3) pos) (tDown X.K te) (dUn downD de) := ⟨pe_down he.p, w_down he.w⟩
theorem e_dg {k : Nat} (hr : Room k X.A) (ha : DE X W a ta da) (hb : DE X W b tb db) (hs : NoSl b := by intro _ _; rfl) : DE X W (.Subscript a b pos) (tDGet ta tb) (dOp dgD da db) := ⟨pe_dget (hu_of hr) ha.p hb.p hs, w_dg ha.w hb.w⟩
/-! built-ins -/
theorem e_cb {id : String} {r : List V → Hp → VK → Prop} {f : List D → Option D} (hc : CallR X (.builtin id) r) (hf : CbD X.K X.mg r f) (hv : bootBuiltins x = some (.builtin id)) (hm : X.mg x = none) (ha : DA X W (e :: es) t d) (hg : Gl X x := by rfl) (hn : x ≠ "__name__" := by decide) (hdb : (x == ("__debug__" : Str)) = false := by decide)
    (he : starEach (e :: es) X.env = (false, eval e X.env) :: starEach es X.env := by rfl) (hpl : (backTo pos (starEach es X.env)).any (·.1) = false := by rfl) : DE X W (.Call (.Name x p) (e :: es) [] pos) (tCB r t) (dCb f d) := ⟨pe_callB hc hg hm hv ha.p hn hdb he hpl, w_cb hf ha.w⟩
theorem x_cb {id : String} {r : List V → Hp → VK → Prop} {f : List D → Option (List D)} (hc : CallR X (.builtin id) r) (hf : CoD X.K X.mg r f) (hv : bootBuiltins x = some (.builtin id)) (hm : X.mg x = none) (ha : DA X W (e :: es) t d) (hg : Gl X x := by rfl) (hn : x ≠ "__name__" := by decide) (hdb : (x == ("__debug__" : Str)) = false := by decide)
    (he : starEach (e :: es) X.env = (false, eval e X.env) :: starEach es X.env := by rfl) (hpl : (backTo pos (starEach es X.env)).any (·.1) = false := by rfl) : DO X W (.Call (.Name x p) (e :: es) [] pos) (tCB r t) (oCb f d) := ⟨pe_callB hc hg hm hv ha.p hn hdb he hpl, w_co hf ha.w⟩
theorem e_ct {T : String} {r : List V → Hp → VK → Prop} {f : List D → Option D} (hc : CallR X (.type T) r) (hf : CbD X.K X.mg r f) (hv : bootBuiltins x = some (.type T)) (hm : X.mg x = none) (ha : DA X W (e :: es) t d) (hg : Gl X x := by rfl) (hn : x ≠ "__name__" := by decide) (hdb : (x == ("__debug__" : Str)) = false := by decide)
    (he : starEach (e :: es) X.env = (false, eval e X.env) :: starEach es X.env := by rfl) (hpl : (backTo pos (starEach es X.env)).any (·.1) = false := by rfl) : DE X W (.Call (.Name x p) (e :: es) [] pos) (tCB r t) (dCb f d) := ⟨pe_callTy hc hg hm hv ha.p hn hdb he hpl, w_cb hf ha.w⟩
theorem x_ct {T : String} {r : List V → Hp → VK → Prop} {f : List D → Option (List D)} (hc : CallR X (.type T) r) (hf : CoD X.K X.mg r f) (hv : bootBuiltins x = some (.type T)) (hm : X.mg x = none) (ha : DA X W (e :: es) t d) (hg : Gl X x := by rfl) (hn : x ≠ "__name__" := by decide) (hdb : (x == ("__debug__" : Str)) = false := by decide)
    (he : starEach (e :: es) X.env = (false, eval e X.env) :: starEach es X.env := by rfl) (hpl : (backTo pos (starEach es X.env)).any (·.1) = false := by rfl) : DO X W (.Call (.Name x p) (e :: es) [] pos) (tCB r t) (oCb f d) := ⟨pe_callTy hc hg hm hv ha.p hn hdb he hpl, w_co hf ha.w⟩
end
theorem bb_len : bootBuiltins "len" = some (.builtin "len") := by decide +kernel
theorem bb_abs : bootBuiltins "abs" = some (.builtin "abs") := by decide +kernel
theorem bb_max : bootBuiltins "max" = some (.builtin "max") := by decide +kernel
theorem bb_min : bootBuiltins "min" = some (.builtin "min") := by decide +kernel
theorem bb_sum : bootBuiltins "sum" = some (.builtin "sum") := by decide +kernel
theorem bb_all : bootBuiltins "all" = some (.builtin "all") := by decide +kernel
theorem bb_any : bootBuiltins "any" = some (.builtin "any") := by decide +kernel
theorem bb_sorted : bootBuiltins "sorted" = some (.builtin "sorted") := by decide +kernel
theorem bb_isinstance : bootBuiltins "isinstance" = some (.builtin "isinstance") := by decide +kernel
theorem bb_int : bootBuiltins "int" = some (.type "int") := by decide +kernel
theorem bb_bool : bootBuiltins "bool" = some (.type "bool") := by decide +kernel
theorem bb_str : bootBuiltins "str" = some (.type "str") := by decide +kernel
theorem bb_list : bootBuiltins "list" = some (.type "list") := by decide +kernel
theorem bb_tuple : bootBuiltins "tuple" = some (.type "tuple") := by decide +kernel
section
variable {K : PySem.W.Frag} {mg : Str → Option Value} {H Hf : Hp} {W : WX}
theorem c_all {X : Cx} : CbD X.K X.mg (rAll X.K) allD := fun Z W C H Hf σ ρ xs vs Q S r h => by
  unfold allD at h
  split at h
  · rename_i l
    cases r with
    | cons r1 r2 =>
      cases r2
      cases r1 with
      | @lst a ys _ e ra =>
        cases q : unB l with
        | none => rw [q] at h; exact h.elim
        | some bs =>
          rw [q] at h
          have := unB_rp q ra
          subst this
          exact ⟨a, bs, rfl, .inl (.inl (S.ff _ _ e)), h.done S (.bl _)⟩
  · exact h.elim
theorem c_any {X : Cx} : CbD X.K X.mg (rAny X.K) anyD := fun Z W C H Hf σ ρ xs vs Q S r h => by
  unfold anyD at h
  split at h
  · rename_i l
    cases r with
    | cons r1 r2 =>
      cases r2
      cases r1 with
      | @lst a ys _ e ra =>
        cases q : unB l with
        | none => rw [q] at h; exact h.elim
        | some bs =>
          rw [q] at h
          have := unB_rp q ra
          subst this
          exact ⟨a, bs, rfl, .inl (.inl (S.ff _ _ e)), h.done S (.bl _)⟩
  · exact h.elim
end
section
variable {X : Cx} {W : WX} {e : Expr} {es : List Expr} {pos p : Pos} {te : TE} {de : ED} {t : TA} {d : AD} {x : Str}
theorem e_len (B : Bt X.mg) (ha : DA X W [e] t d) (hg : Gl X "len" := by rfl) (he : starEach [e] X.env = (false, eval e X.env) :: starEach [] X.env := by rfl) : DE X W (.Call (.Name "len" p) [e] [] pos) (tCB (rLn X.K) t) (dCb lenD d) := e_cb call_len c_len bb_len B.len ha hg (by decide) (by decide) he rfl
theorem e_abs (B : Bt X.mg) (ha : DA X W [e] t d) (hg : Gl X "abs" := by rfl) (he : starEach [e] X.env = (false, eval e X.env) :: starEach [] X.env := by rfl) : DE X W (.Call (.Name "abs" p) [e] [] pos) (tCB rAb t) (dCb absD d) := e_cb call_abs c_abs bb_abs B.abs ha hg (by decide) (by decide) he rfl
theorem e_int1 (B : Bt X.mg) (ha : DA X W [e] t d) (hg : Gl X "int" := by rfl) (he : starEach [e] X.env = (false, eval e X.env) :: starEach [] X.env := by rfl) : DE X W (.Call (.Name "int" p) [e] [] pos) (tCB rIt t) (dCb intD d) := e_ct call_int1 c_int bb_int B.int ha hg (by decide) (by decide) he rfl
theorem e_sum (B : Bt X.mg) (hc : X.calm = true) (ha : DA X W [e] t d) (hg : Gl X "sum" := by rfl) (he : starEach [e] X.env = (false, eval e X.env) :: starEach [] X.env := by rfl) : DE X W (.Call (.Name "sum" p) [e] [] pos) (tCB (rSum X.K) t) (dCb sumD d) := e_cb (cr_sum hc) c_sum bb_sum B.sum ha hg (by decide) (by decide) he rfl
theorem e_maxL (B : Bt X.mg) (hc : X.calm = true) (ha : DA X W [e] t d) (hg : Gl X "max" := by rfl) (he : starEach [e] X.env = (false, eval e X.env) :: starEach [] X.env := by rfl) : DE X W (.Call (.Name "max" p) [e] [] pos) (tCB (rMax X.K) t) (dCb maxL d) := e_cb (cr_max hc) c_maxL bb_max B.max ha hg (by decide) (by decide) he rfl
theorem e_minL (B : Bt X.mg) (hc : X.calm = true) (ha : DA X W [e] t d) (hg : Gl X "min" := by rfl) (he : starEach [e] X.env = (false, eval e X.env) :: starEach [] X.env := by rfl) : DE X W (.Call (.Name "min" p) [e] [] pos) (tCB (rMin X.K) t) (dCb minL d) := e_cb (cr_min hc) c_minL bb_min B.min ha hg (by decide) (by decide) he rfl
theorem e_max2 {e2 : Expr} (B : Bt X.mg) (hc : X.calm = true) (ha : DA X W [e, e2] t d) (hg : Gl X "max" := by rfl) (he : starEach [e, e2] X.env = (false, eval e X.env) :: starEach [e2] X.env := by rfl) (hpl : (backTo pos (starEach [e2] X.env)).any (·.1) = false := by rfl) : DE X W (.Call (.Name "max" p) [e, e2] [] pos) (tCB rX2 t) (dCb max2 d) := e_cb (call_max2 hc) c_max2 bb_max B.max ha hg (by decide) (by decide) he hpl
theorem e_min2 {e2 : Expr} (B : Bt X.mg) (hc : X.calm = true) (ha : DA X W [e, e2] t d) (hg : Gl X "min" := by rfl) (he : starEach [e, e2] X.env = (false, eval e X.env) :: starEach [e2] X.env := by rfl) (hpl : (backTo pos (starEach [e2] X.env)).any (·.1) = false := by rfl) : DE X W (.Call (.Name "min" p) [e, e2] [] pos) (tCB rN2 t) (dCb min2 d) := e_cb (call_min2 hc) c_min2 bb_min B.min ha hg (by decide) (by decide) he hpl
theorem e_all (B : Bt X.mg) (hc : X.calm = true) (ha : DA X W [e] t d) (hg : Gl X "all" := by rfl) (he : starEach [e] X.env = (false, eval e X.env) :: starEach [] X.env := by rfl) : DE X W (.Call (.Name "all" p) [e] [] pos) (tCB (rAll X.K) t) (dCb allD d) := e_cb (cr_all hc) c_all bb_all B.all ha hg (by decide) (by decide) he rfl
theorem e_any (B : Bt X.mg) (hc : X.calm = true) (ha : DA X W [e] t d) (hg : Gl X "any" := by rfl) (he : starEach [e] X.env = (false, eval e X.env) :: starEach [] X.env := by rfl) : DE X W (.Call (.Name "any" p) [e] [] pos) (tCB (rAny X.K) t) (dCb anyD d) := e_cb (cr_any hc) c_any bb_any B.any ha hg (by decide) (by decide) he rfl
theorem e_tuple (B : Bt X.mg) (ha : DA X W [e] t d) (hg : Gl X "tuple" := by rfl) (he : starEach [e] X.env = (false, eval e X.env) :: starEach [] X.env := by rfl) : DE X W (.Call (.Name "tuple" p) [e] [] pos) (tCB (rTp X.K) t) (dCb tupD d) := e_ct call_tuple_of c_tup bb_tuple B.tuple ha hg (by decide) (by decide) he rfl
theorem x_list (B : Bt X.mg) (ha : DA X W [e] t d) (hg : Gl X "list" := by rfl) (he : starEach [e] X.env = (false, eval e X.env) :: starEach [] X.env := by rfl) : DO X W (.Call (.Name "list" p) [e] [] pos) (tCB (rLs X.K) t) (oCb listO d) := x_ct call_list_of c_list bb_list B.list ha hg (by decide) (by decide) he rfl
theorem x_sorted (B : Bt X.mg) (ha : DA X W [e] t d) (hg : Gl X "sorted" := by rfl) (he : starEach [e] X.env = (false, eval e X.env) :: starEach [] X.env := by rfl) : DO X W (.Call (.Name "sorted" p) [e] [] pos) (tCB (rSortedI X.K) t) (oCb sortO d) := x_cb cr_sortedI c_sorted bb_sorted B.sorted ha hg (by decide) (by decide) he rfl
theorem x_ss {p2 q : Pos} (B : Bt X.mg) (hc : X.calm = true) (ha : DE X W e te de) (hg : Gl X "sorted" := by rfl) (hg2 : Gl X "set" := by rfl) (na : starEach [e] X.env = (false, eval e X.env) :: starEach [] X.env := by rfl)
    (nb : starEach [.Call (.Name "set" p2) [e] [] q] X.env = (false, eval (.Call (.Name "set" p2) [e] [] q) X.env) :: starEach [] X.env := by rfl) : DO X W (.Call (.Name "sorted" p) [.Call (.Name "set" p2) [e] [] q] [] pos) (tSS X.K te) (oUn ssO de) := ⟨pe_ss hc hg B.sorted hg2 B.set ha.p na nb, w_ss ha.w⟩
theorem e_isi1 {pt : Pos} {n : Str} (B : Bt X.mg) (t : Ty) (ha : DE X W e te de) (hv : bootBuiltins n = some (.type t.name)) (hm : X.mg n = none) (hg : Gl X "isinstance" := by rfl) (hgt : Gl X n := by rfl) (hn : n ≠ "__name__" := by decide) (hd : (n == ("__debug__" : Str)) = false := by decide)
    (h1 : starEach [e, .Name n pt] X.env = (false, eval e X.env) :: starEach [.Name n pt] X.env := by rfl) (h2 : starEach [.Name n pt] X.env = (false, eval (.Name n pt) X.env) :: starEach [] X.env := by rfl) (hpl : (backTo pos (starEach [.Name n pt] X.env)).any (·.1) = false := by rfl) :
    DE X W (.Call (.Name "isinstance" p) [e, .Name n pt] [] pos) (tCB (rIsi X.K) (tCons te (tCons (tC (.ty t.name)) tNil))) (dUn (isD1 t) de) :=
  ⟨pe_callB call_isi hg B.isinstance bb_isinstance (pa_cons ha.p (pa_cons (pe_bltn (v := .ty t.name) hgt hm hv rfl hn hd) pa_nil h2) h1) (by decide) (by decide) h1 hpl, w_isi1 ha.w⟩
theorem e_isi2 {pt pu pp : Pos} {n m : Str} {kk : Nat} (B : Bt X.mg) (t u : Ty) (ha : DE X W e te de) (hv : bootBuiltins n = some (.type t.name)) (hm : X.mg n = none) (hv2 : bootBuiltins m = some (.type u.name)) (hm2 : X.mg m = none) (hg : Gl X "isinstance" := by rfl) (hgt : Gl X n := by rfl) (hgu : Gl X m := by rfl)
    (hn : n ≠ "__name__" := by decide) (hd : (n == ("__debug__" : Str)) = false := by decide) (hn2 : m ≠ "__name__" := by decide) (hd2 : (m == ("__debug__" : Str)) = false := by decide)
    (h1 : starEach [e, .Tuple [.Name n pt, .Name m pu] kk pp] X.env = (false, eval e X.env) :: starEach [.Tuple [.Name n pt, .Name m pu] kk pp] X.env := by rfl)
    (h2 : starEach [.Tuple [.Name n pt, .Name m pu] kk pp] X.env = (false, eval (.Tuple [.Name n pt, .Name m pu] kk pp) X.env) :: starEach [] X.env := by rfl)
    (h3 : starEach [.Name n pt, .Name m pu] X.env = (false, eval (.Name n pt) X.env) :: starEach [.Name m pu] X.env := by rfl) (h4 : starEach [.Name m pu] X.env = (false, eval (.Name m pu) X.env) :: starEach [] X.env := by rfl)
    (hpl : (backTo pos (starEach [.Tuple [.Name n pt, .Name m pu] kk pp] X.env)).any (·.1) = false := by rfl) :
    DE X W (.Call (.Name "isinstance" p) [e, .Tuple [.Name n pt, .Name m pu] kk pp] [] pos) (tCB (rIsiT X.K) (tCons te (tCons (tTup (tCons (tC (.ty t.name)) (tCons (tC (.ty u.name)) tNil))) tNil))) (dUn (isD2 t u) de) :=
  ⟨pe_callB call_isiT hg B.isinstance bb_isinstance (pa_cons ha.p (pa_cons (pe_tup (pa_cons (pe_bltn (v := .ty t.name) hgt hm hv rfl hn hd) (pa_cons (pe_bltn (v := .ty u.name) hgu hm2 hv2 rfl hn2 hd2) pa_nil h4) h3)) pa_nil h2) h1) (by decide) (by decide) h1 hpl, w_isi2 ha.w⟩
/-! defs called -/
theorem e_call {F : FF} {k k' : Nat} (hh : Has X.prog X.w X.K X.mg X.base x k F) (hr : Room k' X.A) (tk : Takes X W) (ha : DA X W (e :: es) t d) (hk : k ≤ k' := by decide) (hg : Gl X x := by rfl) (hdb : (x == ("__debug__" : Str)) = false := by decide)
    (he : starEach (e :: es) X.env = (false, eval e X.env) :: starEach es X.env := by rfl) (hpl : (backTo pos (starEach es X.env)).any (·.1) = false := by rfl) :
    DE X W (.Call (.Name x p) (e :: es) [] pos) (tCallS (spP X.K X.mg F) (L2.WE W) t) (dCall F d) :=
  ⟨let ⟨f, fd, ps, hm, kp, hb, ok⟩ := hh.ex; pe_callS ok (hr.mono hk) hg hm kp hb (fun σ => passAt tk σ) ha.p hdb he hpl, w_call ha.w⟩
theorem x_call {F : FF} {k k' : Nat} (hh : Has X.prog X.w X.K X.mg X.base x k F) (hr : Room k' X.A) (tk : Takes X W) (ha : DA X W (e :: es) t d) (hk : k ≤ k' := by decide) (hg : Gl X x := by rfl) (hdb : (x == ("__debug__" : Str)) = false := by decide)
    (he : starEach (e :: es) X.env = (false, eval e X.env) :: starEach es X.env := by rfl) (hpl : (backTo pos (starEach es X.env)).any (·.1) = false := by rfl) :
    DO X W (.Call (.Name x p) (e :: es) [] pos) (tCallS (spP X.K X.mg F) (L2.WE W) t) (oCall F d) :=
  ⟨let ⟨f, fd, ps, hm, kp, hb, ok⟩ := hh.ex; pe_callS ok (hr.mono hk) hg hm kp hb (fun σ => passAt tk σ) ha.p hdb he hpl, w_callO ha.w⟩
theorem e_callT {F : FT} {k k' : Nat} (i : Nat) {y : Str} {py : Pos} (hh : HasT X.prog X.w X.K X.mg X.base x k F) (hr : Room k' X.A) (tk : Takes X W) (ha : DA X W es t d) (hk : k ≤ k' := by decide) (hg : Gl X x := by rfl) (hdb : (x == ("__debug__" : Str)) = false := by decide)
    (hN : X.N[i]? = some y := by rfl) (hv : Vis X.env.scope y := by first | exact Or.inl rfl | exact Or.inr (Or.inl rfl) | exact Or.inr (Or.inr rfl)) (hd : (y == ("__debug__" : Str)) = false := by decide) (hcd : (y == ("__classdict__" : Str)) = false := by decide)
    (he : starEach (.Name y py :: es) X.env = (false, eval (.Name y py) X.env) :: starEach es X.env := by rfl) (hpl : (backTo pos (starEach es X.env)).any (·.1) = false := by rfl) :
    DE X W (.Call (.Name x p) (.Name y py :: es) [] pos) (tCallS (spT X.K X.mg F) (L2.WE W) (tCons (tVar i) t)) (dCallT F i d) :=
  ⟨let ⟨f, fd, ps, hm, kp, hb, ok⟩ := hh.ex; pe_callS ok (hr.mono hk) hg hm kp hb (fun σ => passAt tk σ) (pa_cons (pe_var hN hv hd hcd) ha.p he) hdb he hpl, w_callT ha.w⟩
end
end DL

set_option Elab.async false
set_option linter.all false
set_option maxRecDepth 100000
set_option maxHeartbeats 2000000
/-! DL15: rules: iterables, comprehensions, statements -/
namespace DL
open PySem PySem.Spec PyProof.Rows L2
section
variable {X : Cx} {W : WX} {e tg : Expr} {es elts : List Expr} {pos p tpos : Pos} {te : TE} {de : ED} {t : TA} {d : AD} {x : Str} {kk : Nat}
/-! iterables -/
theorem j_seq (h : DE X W e te de) : DI X W tg e (iSq X.K te) (iSeq de) := ⟨pi_sq h.p, i_seq h.w⟩
theorem j_r1 (B : Bt X.mg) (h : DA X W [e] t d) (hg : Gl X "range" := by rfl) (hs : starEach [e] X.env = [(false, eval e X.env)] := by rfl) : DI X W tg (.Call (.Name "range" p) [e] [] pos) (iRng1 t) (iR1 d) := ⟨pi_range1 hg B.range h.p hs, i_r1 h.w⟩
theorem j_r2 {e2 : Expr} (B : Bt X.mg) (h : DA X W [e, e2] t d) (hg : Gl X "range" := by rfl) (hs : starEach [e, e2] X.env = [(false, eval e X.env), (false, eval e2 X.env)] := by rfl) (hs2 : starEach [e2] X.env = [(false, eval e2 X.env)] := by rfl) :
    DI X W tg (.Call (.Name "range" p) [e, e2] [] pos) (iRng2 t) (iR2 d) := ⟨pi_range2 hg B.range h.p hs hs2, i_r2 h.w⟩
theorem j_r3 {e2 e3 : Expr} (B : Bt X.mg) (h : DA X W [e, e2, e3] t d) (hg : Gl X "range" := by rfl) (hs : starEach [e, e2, e3] X.env = (false, eval e X.env) :: starEach [e2, e3] X.env := by rfl) (hpl : (backTo pos (starEach [e2, e3] X.env)).any (·.1) = false := by rfl) :
    DI X W tg (.Call (.Name "range" p) [e, e2, e3] [] pos) (iRng3 t) (iR3 d) := ⟨pi_range3 hg B.range h.p hs hpl, i_r3 h.w⟩
theorem j_en (B : Bt X.mg) (h : DA X W [e] t d) (hg : Gl X "enumerate" := by rfl) (hs : starEach [e] X.env = [(false, eval e X.env)] := by rfl) : DI X W (.Tuple elts kk tpos) (.Call (.Name "enumerate" p) [e] [] pos) (iEnA X.K t) (iEn d) := ⟨pi_enA hg B.enumerate h.p hs, i_en h.w⟩
theorem j_zp {e2 : Expr} (B : Bt X.mg) (h : DA X W [e, e2] t d) (hg : Gl X "zip" := by rfl) (hs : starEach [e, e2] X.env = (false, eval e X.env) :: starEach [e2] X.env := by rfl) (hpl : (backTo pos (starEach [e2] X.env)).any (·.1) = false := by rfl) :
    DI X W (.Tuple elts kk tpos) (.Call (.Name "zip" p) [e, e2] [] pos) (RZ.iZipA X.K t) (iZp d) := ⟨RZ.pi_zipA hg B.zip h.p hs hpl, i_zp h.w⟩
/-! targets -/
theorem n_name (i : Nat) {x : Str} {pos : Pos} (nd : X.N.Nodup) (hi : X.N[i]? = some x := by rfl) (hx : Loc X.env.scope x := by first | exact .inl rfl | exact .inr rfl) (hf : X.fn x = true ∨ X.env.scope.names.lookup x = some .local := by first | exact .inl rfl | exact .inr rfl) : DG X (.Name x pos) (gName i) (gdName i) := ⟨pg_name nd hi hx hf, g_name, calm_name i⟩
theorem n_nil : DGs X [] gNil gdNil := ⟨pgs_nil, g_nil, calm_nil⟩
theorem n_cons {g : TG} {r : TGs} {gd : GD} {rd : GsD} (h : DG X e g gd) (hr : DGs X es r rd) (hs : (assignEach (e :: es) X.env).map (·.2) = assign e X.env :: (assignEach es X.env).map (·.2) := by rfl) : DGs X (e :: es) (gCons g r) (gdCons gd rd) := ⟨pgs_cons h.p hr.p hs, g_cons h.w hr.w, calm_cons h.c hr.c⟩
theorem n_tup {k n : Nat} {r : TGs} {rd : GsD} (hc : X.calm = true) (h : DGs X es r rd) (hn : (assignEach es X.env).length = n := by rfl) (hst : (assignEach es X.env).findIdx? (·.1) = none := by rfl) : DG X (.Tuple es k pos) (gTup X.K n r) (gdTup n rd) := ⟨pg_tup hc h.p hn hst, g_tup h.w, calm_tup h.c⟩
theorem v_nm (i : Nat) {vs : List Nat} {x : Str} {pos : Pos} (nd : X.N.Nodup) (hm : i ∈ vs := by decide) (hi : X.N[i]? = some x := by rfl) (hx : Loc X.env.scope x := by first | exact .inl rfl | exact .inr rfl) (hf : X.fn x = true ∨ X.env.scope.names.lookup x = some .local := by first | exact .inl rfl | exact .inr rfl) : DV X vs (.Name x pos) (gName i) (gdName i) := ⟨pg_name nd hi hx hf, v_name hm⟩
theorem v_nl {vs : List Nat} : DVs X vs [] gNil gdNil := ⟨pgs_nil, v_nil⟩
theorem v_cn {vs : List Nat} {g : TG} {r : TGs} {gd : GD} {rd : GsD} (h : DV X vs e g gd) (hr : DVs X vs es r rd) (hs : (assignEach (e :: es) X.env).map (·.2) = assign e X.env :: (assignEach es X.env).map (·.2) := by rfl) : DVs X vs (e :: es) (gCons g r) (gdCons gd rd) := ⟨pgs_cons h.p hr.p hs, v_cons h.w hr.w⟩
theorem v_tp {vs : List Nat} {k n : Nat} {r : TGs} {rd : GsD} (hc : X.calm = true) (h : DVs X vs es r rd) (hn : (assignEach es X.env).length = n := by rfl) (hst : (assignEach es X.env).findIdx? (·.1) = none := by rfl) : DV X vs (.Tuple es k pos) (gTup X.K n r) (gdTup n rd) := ⟨pg_tup hc h.p hn hst, v_tup h.w⟩
/-! comprehensions -/
theorem w_yes {K : PySem.W.Frag} {mg : Str → Option Value} {W : WX} : WT K mg W tYes tdYes := ⟨fun Z C H Hf σ ρ Q S h => h.done S rfl⟩
theorem y_nil : DTs X W [] tYes tdYes := ⟨pts_nil, w_yes⟩
theorem y_one {tt : TT} {dt : TD} (h : DT X W e tt dt) : DTs X W [e] tt dt := ⟨pts_one h.p, h.w⟩
/-- a comprehension's block -/
abbrev Bk (X : Cx) (scope : Scope) (s : Shared) (H : Hp) (C : Addr) (cl : List (Str × Addr)) (fp : List Addr) : Cx := X.blk s H scope (compEnvC scope cl C X.env) fp
theorem x_lc {elt iter : Expr} {ifs : List Expr} {scope : Scope} (own : List (Str × Nat)) {wi : TI} {g : TG} {tt : TT} {it : ID} {gd : GD} {td : TD} (nd : X.N.Nodup) (hi : DI X W tg iter wi it)
    (hg : ∀ s H C cl fp, DV (Bk X scope s H C cl fp) (own.map (·.2)) tg g gd) (ht : ∀ s H C cl fp, DTs (Bk X scope s H C cl fp) W0 ifs tt td) (he : ∀ s H C cl fp, DE (Bk X scope s H C cl fp) W0 elt te de)
    (ok : BlkOk X.N X.env.scope scope own) (hc : X.calm = true := by rfl) (hs : ∀ x, foldedSetIterable iter X.env x = pure x := by intro _; rfl) :
    DO X W (.ListComp elt [⟨tg, iter, ifs, 0⟩] scope pos) (tLc wi g tt te (own.map (·.2))) (oLc it gd td de (own.map (·.2))) :=
  ⟨pe_lc hc nd hi.p ok (fun s H C cl fp => (hg s H C cl fp).p) (fun s H C cl fp => (ht s H C cl fp).p) (fun s H C cl fp => (he s H C cl fp).p) hs,
    w_lc hi.w (hg X.s_0 X.H_0 0 [] []).w (ht X.s_0 X.H_0 0 [] []).w (he X.s_0 X.H_0 0 [] []).w⟩
/-! statements -/
variable {st : Stmt} {rest : List Stmt} {ts us : TS} {ds du : SD}
theorem z_nil : DSs X W [] tNext sNext := ⟨pss_nil, s_next⟩
theorem z_cons (h : DS X W st ts ds) (hr : DSs X W rest us du) : DSs X W (st :: rest) (tSeq ts us) (sSeq ds du) := ⟨pss_cons h.p hr.p, s_seq h.w hr.w⟩
theorem z_one (h : DS X W st ts ds) : DSs X W [st] ts ds := ⟨pss_one h.p, h.w⟩
theorem k_pass : DS X W (.Pass pos) tNext sNext := ⟨ps_pass, s_next⟩
theorem k_break : DS X W (.Break pos) tBreak sBk := ⟨ps_break, s_bk⟩
theorem k_cont : DS X W (.Continue pos) tCont sCt := ⟨ps_continue, s_ct⟩
theorem k_ret (h : DE X W e te de) : DS X W (.Return (some e) pos) (tRet te) (sRet de) := ⟨ps_ret h.p, s_ret h.w⟩
theorem k_retO {d : AD} (h : DO X W e te d) : DS X W (.Return (some e) pos) (tRet te) (sRetO d) := ⟨ps_ret h.p, s_retO h.w⟩
theorem k_retN : DS X W (.Return none pos) tRetN sRetN := ⟨ps_retN, s_retN⟩
theorem k_if {c : Expr} {a b : List Stmt} {tt : TT} {dt : TD} (hc : DT X W c tt dt) (ha : DSs X W a ts ds) (hb : DSs X W b us du) : DS X W (.If c a b pos) (tIfS tt ts us) (sIf dt ds du) := ⟨ps_if hc.p ha.p hb.p, s_if hc.w ha.w hb.w⟩
theorem k_set (i : Nat) {x : Str} {pos' : Pos} (nd : X.N.Nodup) (he : DE X W e te de) (hi : X.N[i]? = some x := by rfl) (hx : Loc X.env.scope x := by first | exact .inl rfl | exact .inr rfl) (hs : swapsWith e (some (.Name x pos')) pos.line X.env = pure false := by rfl) (hf : X.fn x = true ∨ X.env.scope.names.lookup x = some .local := by first | exact .inl rfl | exact .inr rfl) :
    DS X W (.Assign [.Name x pos'] e pos) (tAsg te (gName i)) (sSet i de) := ⟨ps_set nd hi hx he.p hs hf, s_set he.w⟩
theorem k_setO (i : Nat) {x : Str} {pos' : Pos} {d : AD} (nd : X.N.Nodup) (he : DO X W e te d) (hi : X.N[i]? = some x := by rfl) (hx : Loc X.env.scope x := by first | exact .inl rfl | exact .inr rfl) (hs : swapsWith e (some (.Name x pos')) pos.line X.env = pure false := by rfl) (hf : X.fn x = true ∨ X.env.scope.names.lookup x = some .local := by first | exact .inl rfl | exact .inr rfl) :
    DS X W (.Assign [.Name x pos'] e pos) (tAsg te (gName i)) (sSetO i d) := ⟨ps_set nd hi hx he.p hs hf, s_setO he.w⟩
theorem k_setD (i : Nat) {x : Str} {pos' p : Pos} (nd : X.N.Nodup) (hi : X.N[i]? = some x := by rfl) (hx : Loc X.env.scope x := by first | exact .inl rfl | exact .inr rfl) (hs : swapsWith (.Dict [] [] p) (some (.Name x pos')) pos.line X.env = pure false := by rfl) (hf : X.fn x = true ∨ X.env.scope.names.lookup x = some .local := by first | exact .inl rfl | exact .inr rfl) :
    DS X W (.Assign [.Name x pos'] (.Dict [] [] p) pos) (tAsg tDNewT (gName i)) (sSetD i) := ⟨ps_set nd hi hx pe_dnewT hs hf, s_setD⟩
/-- x = [.. for ..], x a local -/
theorem k_lc (i : Nat) {y : Str} {py spos : Pos} {elt iter : Expr} {ifs : List Expr} {scope : Scope} (own : List (Str × Nat)) {wi : TI} {g : TG} {tt : TT} {it : ID} {gd : GD} {td : TD} (nd : X.N.Nodup) (hi : DI X W tg iter wi it)
    (hg : ∀ s H C cl fp, DV (Bk X scope s H C cl fp) (own.map (·.2)) tg g gd) (ht : ∀ s H C cl fp, DTs (Bk X scope s H C cl fp) W0 ifs tt td) (he : ∀ s H C cl fp, DE (Bk X scope s H C cl fp) W0 elt te de)
    (ok : BlkOk X.N X.env.scope scope own) (ha : (scope.names.any fun (n, k) => n == y && (k == .local || k == .cell)) = false) (hN : X.N[i]? = some y := by rfl) (hl : X.env.scope.names.lookup y = some .local := by rfl) (hk : X.env.scope.kind = .function := by rfl) (hp : (py.line == pos.line) = true := by rfl)
    (hq : spos.line = pos.line := by rfl) (hc : X.calm = true := by rfl) (hs : ∀ x, foldedSetIterable iter X.env x = pure x := by intro _; rfl) :
    DS X W (.Assign [.Name y py] (.ListComp elt [⟨tg, iter, ifs, 0⟩] scope pos) spos) (tAsg (tLc wi g tt te (own.map (·.2))) (gName i)) (sSet i (dFz (oLc it gd td de (own.map (·.2))))) :=
  ⟨ps_setLc hc nd hN hl (by rw [hq]; exact sw_true hk hl hp ha) hi.p ok (fun s H C cl fp => (hg s H C cl fp).p) (fun s H C cl fp => (ht s H C cl fp).p) (fun s H C cl fp => (he s H C cl fp).p) hs,
    s_set (w_fz (w_lc hi.w (hg X.s_0 X.H_0 0 [] []).w (ht X.s_0 X.H_0 0 [] []).w (he X.s_0 X.H_0 0 [] []).w))⟩
theorem k_lcO (i : Nat) {y : Str} {py spos : Pos} {elt iter : Expr} {ifs : List Expr} {scope : Scope} (own : List (Str × Nat)) {wi : TI} {g : TG} {tt : TT} {it : ID} {gd : GD} {td : TD} (nd : X.N.Nodup) (hi : DI X W tg iter wi it)
    (hg : ∀ s H C cl fp, DV (Bk X scope s H C cl fp) (own.map (·.2)) tg g gd) (ht : ∀ s H C cl fp, DTs (Bk X scope s H C cl fp) W0 ifs tt td) (he : ∀ s H C cl fp, DE (Bk X scope s H C cl fp) W0 elt te de)
    (ok : BlkOk X.N X.env.scope scope own) (ha : (scope.names.any fun (n, k) => n == y && (k == .local || k == .cell)) = false) (hN : X.N[i]? = some y := by rfl) (hl : X.env.scope.names.lookup y = some .local := by rfl) (hk : X.env.scope.kind = .function := by rfl) (hp : (py.line == pos.line) = true := by rfl)
    (hq : spos.line = pos.line := by rfl) (hc : X.calm = true := by rfl) (hs : ∀ x, foldedSetIterable iter X.env x = pure x := by intro _; rfl) :
    DS X W (.Assign [.Name y py] (.ListComp elt [⟨tg, iter, ifs, 0⟩] scope pos) spos) (tAsg (tLc wi g tt te (own.map (·.2))) (gName i)) (sSetO i (oLc it gd td de (own.map (·.2)))) :=
  ⟨ps_setLc hc nd hN hl (by rw [hq]; exact sw_true hk hl hp ha) hi.p ok (fun s H C cl fp => (hg s H C cl fp).p) (fun s H C cl fp => (ht s H C cl fp).p) (fun s H C cl fp => (he s H C cl fp).p) hs,
    s_setO (w_lc hi.w (hg X.s_0 X.H_0 0 [] []).w (ht X.s_0 X.H_0 0 [] []).w (he X.s_0 X.H_0 0 [] []).w)⟩
theorem k_asg {g : TG} {gd : GD} (he : DE X W e te de) (hg : DG X tg g gd) (hs : swapsWithSole [tg] e pos.line X.env = pure false := by rfl) (hw : swappedStores [tg] e X.env = pure none := by rfl) (h1 : (assignEach [tg] X.env).map (·.2) = [assign tg X.env] := by rfl) :
    DS X W (.Assign [tg] e pos) (tAsg te g) (sAsg de gd) := ⟨ps_asg he.p hg.p hs hw h1, s_asg he.w hg.w hg.c⟩
theorem k_par (i j : Nat) {x y : Str} {a b : Expr} {px py pt pt2 : Pos} {kt k2 : Nat} (nd : X.N.Nodup) (ha : DA X W [a, b] t d) (hc : X.calm = true := by rfl) (hi : X.N[i]? = some x := by rfl) (hj : X.N[j]? = some y := by rfl) (hij : i ≠ j := by decide)
    (hx : X.env.scope.names.lookup x = some .local := by rfl) (hy : X.env.scope.names.lookup y = some .local := by rfl) (hw : swappedStores [.Tuple [.Name x px, .Name y py] kt pt] (.Tuple [a, b] k2 pt2) X.env = pure (some [x, y]) := by rfl)
    (hs : swapsWithSole [.Tuple [.Name x px, .Name y py] kt pt] (.Tuple [a, b] k2 pt2) pos.line X.env = pure false := by rfl) :
    DS X W (.Assign [.Tuple [.Name x px, .Name y py] kt pt] (.Tuple [a, b] k2 pt2) pos) (tPar i j t) (sPar i j d) := ⟨ps_par hc nd hi hj hij hx hy ha.p hw hs, s_par ha.w⟩
theorem k_par3 (i j l : Nat) {x y z : Str} {a b c : Expr} {px py pz pt pt2 : Pos} {kt k2 : Nat} (nd : X.N.Nodup) (ha : DA X W [a, b, c] t d) (hc : X.calm = true := by rfl) (hi : X.N[i]? = some x := by rfl) (hj : X.N[j]? = some y := by rfl) (hl : X.N[l]? = some z := by rfl) (hij : i ≠ j := by decide) (hil : i ≠ l := by decide) (hjl : j ≠ l := by decide)
    (hx : X.env.scope.names.lookup x = some .local := by rfl) (hy : X.env.scope.names.lookup y = some .local := by rfl) (hz : X.env.scope.names.lookup z = some .local := by rfl) (hw : swappedStores [.Tuple [.Name x px, .Name y py, .Name z pz] kt pt] (.Tuple [a, b, c] k2 pt2) X.env = pure (some [x, y, z]) := by rfl)
    (hs : swapsWithSole [.Tuple [.Name x px, .Name y py, .Name z pz] kt pt] (.Tuple [a, b, c] k2 pt2) pos.line X.env = pure false := by rfl) :
    DS X W (.Assign [.Tuple [.Name x px, .Name y py, .Name z pz] kt pt] (.Tuple [a, b, c] k2 pt2) pos) (tPar3 i j l t) (sPar3 i j l d) := ⟨ps_par3 hc nd hi hj hl hij hil hjl hx hy hz ha.p hw hs, s_par3 ha.w⟩
theorem k_for {iter : Expr} {body : List Stmt} {wi : TI} {it : ID} {g : TG} {gd : GD} (hp : PassesOwn (model X.prog X.w) X.A X.env X.xe) (hi : DI X W tg iter wi it) (hg : DG X tg g gd) (hb : DSs X W body ts ds) (hc : X.calm = true := by rfl) (hs : ∀ x, foldedSetIterable iter X.env x = pure x := by intro _; rfl) :
    DS X W (.For tg iter body [] pos) (tFor wi g ts) (sFor it gd ds) := ⟨ps_for hp hc hi.p hg.p hb.p hs, s_for hi.w hg.w hg.c hb.w⟩
theorem k_while (n : Nat) {c : Expr} {body : List Stmt} {tt : TT} {dt : TD} (hp : PassesOwn (model X.prog X.w) X.A X.env X.xe) (hc : DT X W c tt dt) (hb : DSs X W body ts ds) : DS X W (.While c body [] pos) (tWhile tt ts) (sWhile n dt ds) := ⟨ps_while hp hc.p hb.p, s_while hc.w hb.w⟩
theorem k_raise {x : Str} {p pos' : Pos} (tk : Takes X W) (r : Er X.K X.mg x) (hc : X.calm = true := by rfl) (hg : Gl X x := by rfl) (hd : (x == ("__debug__" : Str)) = false := by decide) : DS X W (.Raise (some (.Call (.Name x p) [] [] pos')) none pos) (fun _ σ H => ∃ C, X.mg x = some (.ref C) ∧ W (.ref C) none σ H) (sRaise x) := by
  obtain ⟨C, gC, q, kC, h1, h2⟩ := r.ex
  have base := ps_raise (pos := pos) hc tk (pmk_own0 (p := p) (pos := pos') PySem.F.excBase_ValueError q gC kC (raises_own h1 h2) hg hd)
  refine ⟨⟨fun pins s σ H D I h => base.run pins s σ H D I ?_⟩, ⟨fun Z C' H Hf σ ρ N S h => ⟨C, gC, h σ H Hf C (Same.refl _) S gC⟩⟩⟩
  obtain ⟨C2, g2, h⟩ := h
  rw [gC] at g2
  cases g2
  exact h
theorem k_app (i : Nat) {x : Str} {px apos cpos : Pos} (he : DE X W e te de) (hN : X.N[i]? = some x := by rfl) (hv : Vis X.env.scope x := by first | exact Or.inl rfl | exact Or.inr (Or.inl rfl) | exact Or.inr (Or.inr rfl)) (hd : (x == ("__debug__" : Str)) = false := by decide) (hcd : (x == ("__classdict__" : Str)) = false := by decide)
    (hbase : attributeBase (.Name x px) "append" X.env (eval (.Name x px) X.env) = eval (.Name x px) X.env := by rfl)
    (hfew : ((backTo cpos (starEach [e] X.env)).all (fun x => !x.1) && (backToKw cpos (keywordEach [] X.env)).all (fun x => x.1.isSome) && decide (([e] : List Expr).length + ([] : List Keyword).length + (if ([] : List Keyword).isEmpty then 0 else 1) < 30)) = true := by rfl)
    (hline : (apos.endLine == cpos.line) = true := by rfl) (hs : starEach [e] X.env = (false, eval e X.env) :: starEach [] X.env := by rfl) (hp : (backTo cpos (starEach [] X.env)).any (·.1) = false := by rfl)
    (hsw : swapsWith (.Call (.Attribute (.Name x px) "append" apos) [e] [] cpos) none pos.line X.env = pure false := by rfl) :
    DS X W (.Expr (.Call (.Attribute (.Name x px) "append" apos) [e] [] cpos) pos) (tDrop (tBM X.K "list" rAppend (tVar i) (tCons te tNil))) (sApp i de) :=
  ⟨ps_expr (pe_bm PySem.F.plainAttrs_list PySem.F.slot_list_append PySem.F.type_list_append mt_append (pe_var hN hv hd hcd) (pa_cons he.p pa_nil hs) hbase hfew hline hs hp) hsw, s_app he.w⟩
theorem k_ext (i : Nat) {x : Str} {px apos cpos : Pos} (he : DE X W e te de) (hN : X.N[i]? = some x := by rfl) (hv : Vis X.env.scope x := by first | exact Or.inl rfl | exact Or.inr (Or.inl rfl) | exact Or.inr (Or.inr rfl)) (hd : (x == ("__debug__" : Str)) = false := by decide) (hcd : (x == ("__classdict__" : Str)) = false := by decide)
    (hbase : attributeBase (.Name x px) "extend" X.env (eval (.Name x px) X.env) = eval (.Name x px) X.env := by rfl)
    (hfew : ((backTo cpos (starEach [e] X.env)).all (fun x => !x.1) && (backToKw cpos (keywordEach [] X.env)).all (fun x => x.1.isSome) && decide (([e] : List Expr).length + ([] : List Keyword).length + (if ([] : List Keyword).isEmpty then 0 else 1) < 30)) = true := by rfl)
    (hline : (apos.endLine == cpos.line) = true := by rfl) (hs : starEach [e] X.env = (false, eval e X.env) :: starEach [] X.env := by rfl) (hp : (backTo cpos (starEach [] X.env)).any (·.1) = false := by rfl)
    (hsw : swapsWith (.Call (.Attribute (.Name x px) "extend" apos) [e] [] cpos) none pos.line X.env = pure false := by rfl) :
    DS X W (.Expr (.Call (.Attribute (.Name x px) "extend" apos) [e] [] cpos) pos) (tDrop (tBM X.K "list" rExtend (tVar i) (tCons te tNil))) (sExt i de) :=
  ⟨ps_expr (pe_bm PySem.F.plainAttrs_list PySem.F.slot_list_extend PySem.F.type_list_extend mt_extend (pe_var hN hv hd hcd) (pa_cons he.p pa_nil hs) hbase hfew hline hs hp) hsw, s_ext he.w⟩
theorem k_putL (i : Nat) {x : Str} {px p' : Pos} {ix : Expr} {ti : TE} {di : ED} (he : DE X W e te de) (hi : DE X W ix ti di) (hN : X.N[i]? = some x := by rfl) (hv : Vis X.env.scope x := by first | exact Or.inl rfl | exact Or.inr (Or.inl rfl) | exact Or.inr (Or.inr rfl)) (hd : (x == ("__debug__" : Str)) = false := by decide) (hcd : (x == ("__classdict__" : Str)) = false := by decide)
    (ha : ∀ v, assign (.Subscript (.Name x px) ix p') X.env v = (do
      let ov ← holding [v] (eval (.Name x px) X.env)
      let iv ← holding [v, ov] (eval ix X.env)
      standAt p'
      holding [v, ov, iv] (setItem ov iv v)
      release [v, ov, iv] []) := by intro _; rfl) (hs : swapsWithSole [.Subscript (.Name x px) ix p'] e pos.line X.env = pure false := by rfl) (hw : swappedStores [.Subscript (.Name x px) ix p'] e X.env = pure none := by rfl) (h1 : (assignEach [.Subscript (.Name x px) ix p'] X.env).map (·.2) = [assign (.Subscript (.Name x px) ix p') X.env] := by rfl) :
    DS X W (.Assign [.Subscript (.Name x px) ix p'] e pos) (tAsg te (gSub (tVar i) ti rSetL)) (sPutL i di de) := ⟨ps_asg he.p (pg_sub (pe_var hN hv hd hcd) hi.p set_list ha) hs hw h1, s_putL he.w hi.w⟩
theorem k_putD (i : Nat) {k : Nat} {x : Str} {px p' : Pos} {ix : Expr} {ti : TE} {di : ED} (hr : Room k X.A) (he : DE X W e te de) (hi : DE X W ix ti di) (hs : swapsWith e (some (.Subscript (.Name x px) ix p')) pos.line X.env = pure false := by rfl) (hN : X.N[i]? = some x := by rfl) (hv : Vis X.env.scope x := by first | exact Or.inl rfl | exact Or.inr (Or.inl rfl) | exact Or.inr (Or.inr rfl)) (hd : (x == ("__debug__" : Str)) = false := by decide) (hcd : (x == ("__classdict__" : Str)) = false := by decide) :
    DS X W (.Assign [.Subscript (.Name x px) ix p'] e pos) (sDPut (tVar i) ti te) (sPutD i di de) := ⟨ps_dput (hu_of hr) (pe_var hN hv hd hcd) hi.p he.p hs, s_putD hi.w he.w⟩
end
/-! x += e, ints -/
def sAug (i : Nat) (e : ED) : SD := fun ρ => match ρ[i]? with
  | some (some (.fz (.int a))) => (e ρ).bind fun p => match p.1 with
    | .int b => .ok (.nx (p.2.set i (some (.fz (.int (a + b))))))
    | _ => .bad
  | _ => .bad
theorem s_aug {K : PySem.W.Frag} {mg : Str → Option Value} {W : WX} {i : Nat} {te : TE} {de : ED} (h : WE K mg W te de) : WS K mg W (tAug i te (ipI fun i j => i + j)) (sAug i de) := ⟨fun Z C H Hf σ ρ N S hp => by
  unfold sAug at hp
  split at hp
  · rename_i a e
    obtain ⟨v, es, rb⟩ := S.sl i _ e
    cases rb
    refine ⟨.int a, es, h.run Z C H Hf σ ρ _ S (PostS.ebind hp fun x ρ1 v H1 Hf1 s1 S1 r h1 => ?_)⟩
    cases x with
    | int b => cases r; exact ⟨a, b, rfl, rfl, h1 _ H1 Hf1 (Same.refl _) (S1.set i (.int (a + b)))⟩
    | _ => exact h1.elim
  · exact hp.elim⟩
theorem k_aug {X : Cx} {W : WX} {e : Expr} {te : TE} {de : ED} {pos : Pos} (i : Nat) {x : Str} {pos' : Pos} (nd : X.N.Nodup) (he : DE X W e te de) (hi : X.N[i]? = some x := by rfl) (hx : Loc X.env.scope x := by first | exact .inl rfl | exact .inr rfl) (hf : X.fn x = true ∨ X.env.scope.names.lookup x = some .local := by first | exact .inl rfl | exact .inr rfl) :
    DS X W (.AugAssign (.Name x pos') .Add e pos) (tAug i te (ipI fun i j => i + j)) (sAug i de) := ⟨ps_aug nd hi hx he.p ip_add hf, s_aug he.w⟩
end DL

set_option Elab.async false
set_option linter.all false
set_option maxRecDepth 100000
set_option maxHeartbeats 2000000
/-! DL16: further rules: ends, lists made, dict methods, x or y -/
namespace DL
open PySem PySem.Spec PyProof.Rows L2
section
variable {P : Program} {w : World} {K : PySem.W.Frag} {mg : Str → Option Value} {base : Heap} {x qual : Str} {params : Arguments} {body : List Stmt} {scope : Scope} {f : Addr} {fd : FuncData} {N ps : List Str} {k : Nat}
/-- a def of which nothing is said -/
theorem fn_bad : FnOk P w K mg base (L2.CX P w) k f fd ps (spP K mg fun _ => .bad) :=
  ⟨fun vs H Q E ⟨_, _, _, _, _, _, _, _, h⟩ => h.elim, fun _ _ _ _ _ _ _ _ _ _ _ _ _ ⟨_, _, _, _, _, _, _, _, h⟩ => h.elim⟩
/-- at the end no exception may come out -/
theorem fn_end {sp : Sp} (F : FnOk P w K mg base (L2.CX P w) k f fd ps sp) : FnOk P w K mg base L2.CX0 k f fd ps (fun vs H Q _ => sp vs H Q fun _ _ _ => False) :=
  ⟨fun vs H Q _ h => F.len vs H Q _ h, fun A outer s H args us vs Q E hr he hb hv hs => codeAny_mono (F.run A outer s H args us vs Q _ hr he hb hv hs) fun r s' hq => by
    unfold CR at hq ⊢
    split at hq
    · exact hq
    · exact hq.elim
    · obtain ⟨_, _, _, _, _, _, _, _, _, _, _, _, z⟩ := hq
      exact z.elim⟩
end
section
variable {X : Cx} {W : WX} {a b c e : Expr} {es : List Expr} {pos p : Pos} {ta tb tc te : TE} {da db dc de : ED} {t : TA} {d : AD} {k : Nat}
/-! ### lists made -/
abbrev oRep (a : AD) (b : ED) : AD := oOp repL (dFz a) b
theorem x_rep {oa : AD} (ha : DO X W a ta oa) (hb : DE X W b tb db) : DO X W (.BinOp a .Mult b pos) (tOp rRep ta tb) (oRep oa db) := ⟨pe_op op_rep ha.p hb.p, w_opO o_repL (w_fz ha.w) hb.w⟩
/-! x or y, lists -/
def oOr (a b : AD) : AD := fun ρ => (a ρ).bind fun p => if p.1 = [] then b p.2 else .ok p
theorem w_orO {K : PySem.W.Frag} {mg : Str → Option Value} {oa ob : AD} (ha : WO K mg W ta oa) (hb : WO K mg W tb ob) : WO K mg W (tOrT K ta tb) (oOr oa ob) :=
  ⟨fun Z C H Hf σ ρ Q S h => ha.run Z C H Hf σ ρ _ S (Post.bind h fun l ρ1 v H1 Hf1 s1 S1 r h1 => by
    obtain ⟨q, xs, rfl, e, n, nc, no, ra⟩ := r
    refine ⟨!xs.isEmpty, .inl ⟨xs, .inl (.inl e), rfl⟩, ?_⟩
    dsimp only at h1
    cases xs with
    | nil =>
      have : l = [] := ra.nil_iff.mp rfl
      subst this
      rw [if_pos rfl] at h1
      exact hb.run Z C H1 Hf1 σ ρ1 Q S1 h1
    | cons x xs =>
      have hl : l ≠ [] := fun z => by have := ra.nil_iff.mpr z; cases this
      rw [if_neg hl] at h1
      exact h1.done S1 ⟨q, _, rfl, e, n, nc, no, ra⟩)⟩
theorem x_or {oa ob : AD} (ha : DO X W a ta oa) (hb : DO X W b tb ob) : DO X W (.BoolOp .Or [a, b] pos) (tOrT X.K ta tb) (oOr oa ob) := ⟨pe_orT ha.p (pe_one hb.p), w_orO ha.w hb.w⟩
/-! list(range(..)) -/
def rgL (a b : Int) : List D := (List.range (b - a).toNat).map fun (i : Nat) => D.int (a + (i : Nat))
theorem rgL_rp {K : PySem.W.Frag} {mg : Str → Option Value} {Hf : Hp} (a b : Int) : RpA K mg Hf (rgL a b) (rgV a b) := by
  unfold rgL rgV
  generalize List.range (b - a).toNat = l
  induction l with
  | nil => exact .nil
  | cons i l ih => exact .cons (.int _) ih
def oRg1 (a : ED) : AD := fun ρ => (a ρ).bind fun p => match p.1 with
  | .int n => if 0 ≤ n ∧ n ≤ 1000000 then .ok (rgL 0 n, p.2) else .bad
  | _ => .bad
def oRg2 (a b : ED) : AD := fun ρ => (a ρ).bind fun p => (b p.2).bind fun q => match p.1, q.1 with
  | .int m, .int n => if 0 ≤ m ∧ m ≤ 1000000 ∧ 0 ≤ n ∧ n ≤ 1000000 then .ok (rgL m n, q.2) else .bad
  | _, _ => .bad
theorem x_listRg1 {p2 q : Pos} (B : Bt X.mg) (ha : DE X W a ta da) (hc : X.calm = true := by rfl) (hg : Gl X "list" := by rfl) (hg2 : Gl X "range" := by rfl) (na : starEach [.Call (.Name "range" p2) [a] [] q] X.env = (false, eval (.Call (.Name "range" p2) [a] [] q) X.env) :: starEach [] X.env := by rfl)
    (nb : starEach [a] X.env = (false, eval a X.env) :: starEach [] X.env := by rfl) : DO X W (.Call (.Name "list" p) [.Call (.Name "range" p2) [a] [] q] [] pos) (tLstRg (tRg1 ta)) (oRg1 da) :=
  ⟨pe_listRg hc hg B.list (prg_1 hg2 B.range ha.p nb) na, ⟨fun Z C H Hf σ ρ Q S h => ha.w.run Z C H Hf σ ρ _ S (Post.bind h fun x ρ1 v H1 Hf1 s1 S1 r h1 => by
    dsimp only at h1
    cases x with
    | int n =>
      dsimp only at h1
      split at h1
      · rename_i hl
        cases r
        refine ⟨n, rfl, ⟨by omega, by omega, by omega, by omega, by omega⟩, fun q nq => newL S1 h1 (rgL_rp 0 n) nq⟩
      · exact h1.elim
    | _ => exact h1.elim)⟩⟩
theorem x_listRg2 {p2 q : Pos} (B : Bt X.mg) (ha : DE X W a ta da) (hb : DE X W b tb db) (hc : X.calm = true := by rfl) (hg : Gl X "list" := by rfl) (hg2 : Gl X "range" := by rfl) (na : starEach [.Call (.Name "range" p2) [a, b] [] q] X.env = (false, eval (.Call (.Name "range" p2) [a, b] [] q) X.env) :: starEach [] X.env := by rfl)
    (nb : starEach [a, b] X.env = (false, eval a X.env) :: starEach [b] X.env := by rfl) (nc : starEach [b] X.env = (false, eval b X.env) :: starEach [] X.env := by rfl) (hpl : (backTo q (starEach [b] X.env)).any (·.1) = false := by rfl) : DO X W (.Call (.Name "list" p) [.Call (.Name "range" p2) [a, b] [] q] [] pos) (tLstRg (tRg2 ta tb)) (oRg2 da db) :=
  ⟨pe_listRg hc hg B.list (prg_2 hg2 B.range ha.p hb.p nb nc hpl) na, ⟨fun Z C H Hf σ ρ Q S h => ha.w.run Z C H Hf σ ρ _ S (Post.bind h fun x ρ1 v H1 Hf1 s1 S1 r h1 => hb.w.run Z C H1 Hf1 σ ρ1 _ S1 (Post.bind h1 fun y ρ2 u H2 Hf2 s2 S2 r2 h2 => by
    dsimp only at h2
    cases x with
    | int m =>
      cases y with
      | int n =>
        dsimp only at h2
        split at h2
        · rename_i hl
          cases r
          cases r2
          refine ⟨m, n, rfl, rfl, ⟨by omega, by omega, by omega, by omega, by omega⟩, fun q nq => newL S2 h2 (rgL_rp m n) nq⟩
        · exact h2.elim
      | _ => exact h2.elim
    | _ => exact h2.elim))⟩⟩
/-! ### methods -/
theorem e_getV (i : Nat) {x : Str} {px apos : Pos} (hr : Room k X.A) (ha : DE X W a ta da) (hb : DE X W b tb db) (hN : X.N[i]? = some x := by rfl) (hv : Vis X.env.scope x := by first | exact Or.inl rfl | exact Or.inr (Or.inl rfl) | exact Or.inr (Or.inr rfl)) (hd : (x == ("__debug__" : Str)) = false := by decide) (hcd : (x == ("__classdict__" : Str)) = false := by decide)
    (m1 : attributeBase (.Name x px) "get" X.env (eval (.Name x px) X.env) = eval (.Name x px) X.env := by rfl) (m2 : ((backTo pos (starEach [a, b] X.env)).all (fun x => !x.1) && (backToKw pos (keywordEach [] X.env)).all (fun x => x.1.isSome)
    && decide (([a, b] : List Expr).length + ([] : List Keyword).length + (if ([] : List Keyword).isEmpty then 0 else 1) < 30)) = true := by rfl) (m3 : (apos.endLine == pos.line) = true := by rfl) (m4 : backTo pos (starEach [a, b] X.env) = [(false, eval a X.env), (false, eval b X.env)] := by rfl) :
    DE X W (.Call (.Attribute (.Name x px) "get" apos) [a, b] [] pos) (tDGet2 (tVar i) ta tb) (dGetV i da db) := ⟨pe_dget2 (hu_of hr) (pe_var hN hv hd hcd) ha.p hb.p ⟨m1, m2, m3, m4⟩, w_getV ha.w hb.w⟩
theorem e_pop (i : Nat) {x : Str} {px apos : Pos} (hN : X.N[i]? = some x := by rfl) (hv : Vis X.env.scope x := by first | exact Or.inl rfl | exact Or.inr (Or.inl rfl) | exact Or.inr (Or.inr rfl)) (hd : (x == ("__debug__" : Str)) = false := by decide) (hcd : (x == ("__classdict__" : Str)) = false := by decide)
    (hbase : attributeBase (.Name x px) "pop" X.env (eval (.Name x px) X.env) = eval (.Name x px) X.env := by rfl) (hline : (apos.endLine == pos.line) = true := by rfl) : DE X W (.Call (.Attribute (.Name x px) "pop" apos) [] [] pos) (tBM0 X.K "list" rPop (tVar i)) (dPop i) :=
  ⟨pe_bm0 PySem.F.plainAttrs_list PySem.F.slot_list_pop PySem.F.type_list_pop mt_pop (pe_var hN hv hd hcd) hbase hline, w_pop⟩
theorem e_lenV (i : Nat) {x : Str} {px : Pos} (B : Bt X.mg) (hg : Gl X "len" := by rfl) (hN : X.N[i]? = some x := by rfl) (hv : Vis X.env.scope x := by first | exact Or.inl rfl | exact Or.inr (Or.inl rfl) | exact Or.inr (Or.inr rfl)) (hd : (x == ("__debug__" : Str)) = false := by decide) (hcd : (x == ("__classdict__" : Str)) = false := by decide)
    (he : starEach [.Name x px] X.env = (false, eval (.Name x px) X.env) :: starEach [] X.env := by rfl) : DE X W (.Call (.Name "len" p) [.Name x px] [] pos) (tCB (rLn X.K) (tCons (tVar i) tNil)) (dLenV i) :=
  ⟨pe_callB call_len hg B.len bb_len (pa_cons (pe_var hN hv hd hcd) pa_nil he) (by decide) (by decide) he rfl, w_lenV⟩
end
end DL

set_option Elab.async false
set_option linter.all false
set_option maxRecDepth 100000
set_option maxHeartbeats 2000000
/-! DL17: compares as tests -/
namespace DL
open PySem PySem.Spec PyProof.Rows L2
section
variable {X : Cx} {W : WX} {a b c e : Expr} {pos p : Pos} {ta tb tc te : TE} {da db dc de : ED} {k : Nat}
theorem t_lt (ha : DE X W a ta da) (hb : DE X W b tb db) : DT X W (.Compare a [.Lt] [b] pos) (tTest (tOp (rI0 fun i j => .bl (decide (i < j))) ta tb)) (tBl (dOp ltD da db)) := ⟨pt_cmpR op_lt ha.p hb.p (nomark _), w_test (w_op o_cmp ha.w hb.w)⟩
theorem t_le (ha : DE X W a ta da) (hb : DE X W b tb db) : DT X W (.Compare a [.LtE] [b] pos) (tTest (tOp (rI0 fun i j => .bl (decide (i ≤ j))) ta tb)) (tBl (dOp leD da db)) := ⟨pt_cmpR op_le ha.p hb.p (nomark _), w_test (w_op o_cmp ha.w hb.w)⟩
theorem t_gt (ha : DE X W a ta da) (hb : DE X W b tb db) : DT X W (.Compare a [.Gt] [b] pos) (tTest (tOp (rI0 fun i j => .bl (decide (j < i))) ta tb)) (tBl (dOp gtD da db)) := ⟨pt_cmpR op_gt ha.p hb.p (nomark _), w_test (w_op o_cmp ha.w hb.w)⟩
theorem t_ge (ha : DE X W a ta da) (hb : DE X W b tb db) : DT X W (.Compare a [.GtE] [b] pos) (tTest (tOp (rI0 fun i j => .bl (decide (j ≤ i))) ta tb)) (tBl (dOp geD da db)) := ⟨pt_cmpR op_ge ha.p hb.p (nomark _), w_test (w_op o_cmp ha.w hb.w)⟩
theorem t_eq (hr : Room k X.A) (ha : DE X W a ta da) (hb : DE X W b tb db) : DT X W (.Compare a [.Eq] [b] pos) (tTest (tOp (rEqD X.K) ta tb)) (tBl (dOp eqD da db)) := ⟨pt_cmpR (op_eqD hr.units) ha.p hb.p (nomark _), w_test (w_op o_eq ha.w hb.w)⟩
theorem t_ne (hr : Room k X.A) (ha : DE X W a ta da) (hb : DE X W b tb db) : DT X W (.Compare a [.NotEq] [b] pos) (tTest (tOp (rNeD X.K) ta tb)) (tBl (dOp neD da db)) := ⟨pt_cmpR (op_neD hr.units) ha.p hb.p (nomark _), w_test (w_op o_ne ha.w hb.w)⟩
theorem t_is (ha : DE X W a ta da) (hb : DE X W b tb db) : DT X W (.Compare a [.Is] [b] pos) (tTest (tOp (fun x y H Q => y = .non ∧ Q (.bl (decide (x = .non))) H) ta tb)) (tBl (dOp isN da db)) := ⟨pt_cmpR op_isN ha.p hb.p (nomark _), w_test (w_op o_isN ha.w hb.w)⟩
theorem t_isnt (ha : DE X W a ta da) (hb : DE X W b tb db) : DT X W (.Compare a [.IsNot] [b] pos) (tTest (tOp (fun x y H Q => y = .non ∧ Q (.bl (!decide (x = .non))) H) ta tb)) (tBl (dOp notN da db)) := ⟨pt_cmpR op_notN ha.p hb.p (nomark _), w_test (w_op o_notN ha.w hb.w)⟩
theorem t_in (ha : DE X W a ta da) (hb : DE X W b tb db) (hm : behindInMarks .In b = false := by rfl) : DT X W (.Compare a [.In] [b] pos) (tTest (tOp (rIn X.K false) ta tb)) (tBl (dOp inD da db)) := ⟨pt_cmpR op_in_seq ha.p hb.p hm, w_test (w_op o_in ha.w hb.w)⟩
theorem t_nin (ha : DE X W a ta da) (hb : DE X W b tb db) (hm : behindInMarks .NotIn b = false := by rfl) : DT X W (.Compare a [.NotIn] [b] pos) (tTest (tOp (rIn X.K true) ta tb)) (tBl (dOp ninD da db)) := ⟨pt_cmpR op_notIn_seq ha.p hb.p hm, w_test (w_op o_nin ha.w hb.w)⟩
theorem t_lele (ha : DE X W a ta da) (hb : DE X W b tb db) (hc : DE X W c tc dc) (hm : lastMarks [.LtE, .LtE] [b, c] = false := by with_unfolding_all rfl) :
    DT X W (.Compare a [.LtE, .LtE] [b, c] pos) (tTest (tChain (rI0 fun i j => .bl (decide (i ≤ j))) (rI0 fun i j => .bl (decide (i ≤ j))) ta tb tc)) (tBl (dChain leD leD da db dc)) :=
  ⟨pt_chain op_le op_le ha.p hb.p hc.p hm, w_test (w_chain o_cmpB cm_b o_cmp ha.w hb.w hc.w)⟩
end
end DL

set_option Elab.async false
set_option linter.all false
set_option maxRecDepth 100000
set_option maxHeartbeats 2000000
/-! DL18: sorted of a dict whose keys are tuples of ints, tuple.count -/
namespace DL
open PySem PySem.Spec PyProof.Rows L2
/-- a tuple that stands is data -/
theorem Sm.seeT {K : PySem.W.Frag} {mg : Str → Option Value} {Z : Addr} {C H Hf : Hp} {σ : Sl} {ρ : Rho} (S : Sm K mg Z C H Hf σ ρ) {b : Addr} {vs : List V} (e : H b = some (.tup vs)) :
    Sm K mg Z C H (upd Hf b (.tup vs)) σ ρ ∧ Same Hf (upd Hf b (.tup vs)) := by
  have sa : Same Hf (upd Hf b (.tup vs)) := fun a o q => by
    by_cases h : a = b
    · subst h; rw [upd_same, ← e]; exact S.ff a o q
    · rw [upd_ne h]; exact q
  have nb : ∀ {a : Addr}, Hf a = none → H a ≠ some (.tup vs) → upd Hf b (.tup vs) a = none := fun {a} h1 h2 => by
    by_cases h : a = b
    · subst h; exact absurd e h2
    · rw [upd_ne h]; exact h1
  refine ⟨⟨fun a o q => ?_, S.cf, fun a o q => ?_, S.ln, fun i c q => ?_, S.ds, S.cm⟩, sa⟩
  · by_cases h : a = b
    · subst h; rw [upd_same] at q; rw [e]; exact q
    · rw [upd_ne h] at q; exact S.ff a o q
  · refine nb (S.dj a o q) fun z => ?_
    rw [S.cf a o q] at z
    cases z
    exact S.cm a vs q
  · obtain ⟨v, e1, r⟩ := S.sl i c q
    refine ⟨v, e1, ?_⟩
    cases c with
    | fz d => exact Rp.up r sa
    | ow t l =>
      obtain ⟨a, xs, rfl, h1, h2, h3, h4, h5⟩ := r
      exact ⟨a, xs, rfl, h1, nb h2 (by rw [h1]; intro z; cases z), h3, h4.up sa, h5⟩
    | od l =>
      obtain ⟨a, xs, rfl, h1, h2, h3, h4⟩ := r
      exact ⟨a, xs, rfl, h1, nb h2 (by rw [h1]; intro z; cases z), h3, h4.up sa⟩
theorem keys_zip {H : Hp} : ∀ {kvs : List (List Key × V)} {bs : List Addr} {is : List (List Int)}, IsKeys H kvs bs → kvs.map (·.1) = is.map (·.map Sum.inl) →
    ∃ M : List (Addr × List Int), M.map (·.1) = bs ∧ M.map (·.2) = is ∧ ∀ q ∈ M, H q.1 = some (.tup (q.2.map V.int))
  | [], _, [], .nil, _ => ⟨[], rfl, rfl, fun _ h => by cases h⟩
  | [], _, _ :: _, .nil, h => by cases h
  | _ :: _, _, [], .cons _ _, h => by cases h
  | kv :: kvs, _, i :: is, .cons h t, hk => by
    rw [List.map_cons, List.map_cons] at hk
    obtain ⟨hk1, hk2⟩ := List.cons_eq_cons.mp hk
    obtain ⟨M, m1, m2, m3⟩ := keys_zip t hk2
    refine ⟨(_, i) :: M, by rw [List.map_cons, m1], by rw [List.map_cons, m2], fun q hq => ?_⟩
    rcases List.mem_cons.mp hq with rfl | hq
    · rw [h, hk1, List.map_map]
      rfl
    · exact m3 q hq
def rSortDk (K : PySem.W.Frag) : List V → Hp → VK → Prop := fun xs H Q => ∃ (a : Addr) (kvs : List (List Key × V)) (is : List (List Int)) (d : Nat) (B : Int), xs = [.ref a] ∧ Rd H a (.dT kvs) ∧ kvs.map (·.1) = is.map (·.map Sum.inl) ∧ is.length < 64 ∧ 1 ≤ d ∧
  (∀ k ∈ is, k.length = d ∧ TS.Bd B k) ∧ ∀ (L : List (Addr × List Int)) (p : Addr), (L.map (·.2)).Perm is → L.Pairwise (fun q r => TS.code B q.2 ≤ TS.code B r.2) → (∀ q ∈ L, H q.1 = some (.tup (q.2.map V.int))) → H p = none → Q (.ref p) (upd H p (.lst (L.map fun q => V.ref q.1)))
def adr : Value → Addr
  | .ref a => a
  | _ => 0
theorem cr_sortDk {X : Cx} (hc : X.calm = true) : CallR X (.builtin "sorted") (rSortDk X.K) := by
  intro pins s σ H xs us Q I r h
  obtain ⟨a, kvs, is, d, B, rfl, hd, hks, h64, hd1, hB, q⟩ := h
  obtain ⟨u, rfl, rx⟩ := r.one
  cases rx
  obtain ⟨z, hs, ks, pr, o, es, ep, ho, hx, hdt, he, hn⟩ := (show ObjOk X.prog X.w H s.heap a (.dT kvs) from hd.ok I.hok)
  have l1 : es.size = ks.length := size_of_entries he
  have l2 : kvs.length = ks.length := Paired.length pr
  have l3 : kvs.length = is.length := by
    have := congrArg List.length hks
    simpa using this
  refine Calls.call_function_entry PyProof.Rows.kind_sorted PyProof.Rows.plain_sorted PyProof.Rows.entry_sorted (PyProof.Rows.args_sorted1 _) ?_
  unfold Builtin.«sorted»
  refine wpAny_bind (m := checkCount "sorted" 1 1 _) (wpAny_pure ?_)
  refine wpAny_bind (PySem.W.kdu_collect (A := X.A.in1) (kdl_raw hs hx hdt) (I.ok.hd hc) ho (by omega) fun h' tk acc hk it => ?_)
  have ea : acc.toList = ks.map fun x => Value.ref x.2.1 := by
    have hl : acc.toList.length = ks.length := by rw [Array.length_toList, it.1]; exact l1
    apply List.ext_getElem?
    intro j
    rw [List.getElem?_map]
    cases hj : acc.toList[j]? with
    | none =>
      have h1 := List.getElem?_eq_none_iff.mp hj
      rw [List.getElem?_eq_none (by omega)]
      all_goals rfl
    | some v =>
      obtain ⟨en, hen, hv⟩ := it.2 j v (by rw [← Array.getElem?_toList]; exact hj)
      have qe := entry_at he j
      rw [hen] at qe
      cases hb : ks[j]? with
      | none =>
        rw [hb] at qe
        exact nomatch (show some en = none from qe)
      | some b =>
        rw [hb] at qe
        have e2 : en = entryOfKey (tupleKind (mixKind X.prog X.w)) b := Option.some.inj qe
        rw [hv, e2]
        all_goals rfl
  obtain ⟨M, m1, m2, m3⟩ := keys_zip (isKeys_of pr) hks
  have eM : acc.toList = M.map fun q => Value.ref q.1 := by
    rw [ea]
    have : (ks.map fun x => Value.ref x.2.1) = (ks.map fun x => x.2.1).map Value.ref := by rw [List.map_map]; rfl
    rw [this, ← m1, List.map_map]
    rfl
  have lM : M.length = is.length := by rw [← m2, List.length_map]
  have I1 : Inv X pins σ H { s with heap := h', toks := tk } := I.kept hk
  have hal : acc.toList.length = is.length := by rw [eM, List.length_map, lM]
  refine wpAny_bind (wpAny_newList ?_ (by rw [hal, sizeLine_eq]; omega))
  have hoL : (h'.push (seqObj "list" acc.toList.toArray 0)).get? h'.objs.size = some (seqObj "list" acc.toList.toArray 0) := Heap.get?_push_size _ rfl
  show wpAny _ _ _ _ _ { s with heap := h'.push (seqObj "list" acc.toList.toArray 0), toks := tk }
  have tM : ∀ q ∈ M, TS.TupInts (h'.push (seqObj "list" acc.toList.toArray 0)) (.ref q.1) q.2 := fun p hp =>
    (tupI_raw I1 (t := p.1) (ns := p.2) (.inl (.inl (m3 p hp)))).keeps fun b o e _ => Heap.get?_push_of_some _ e
  have ok : TS.TupsOk (h'.push (seqObj "list" acc.toList.toArray 0)) d B acc.toList := fun v hv => by
    rw [eM] at hv
    obtain ⟨p, hp, rfl⟩ := List.mem_map.mp hv
    have : p.2 ∈ is := by rw [← m2]; exact List.mem_map.mpr ⟨p, hp, rfl⟩
    exact ⟨p.2, tM p hp, hB _ this⟩
  let g : Value → Addr × List Int := fun u => (adr u, TS.intsOf (h'.push (seqObj "list" acc.toList.toArray 0)) u)
  have gM : (acc.toList.map g) = M := by
    rw [eM, List.map_map]
    refine List.ext_getElem (by simp) fun n h1 h2 => ?_
    rw [List.getElem_map]
    show (_, _) = _
    rw [(tM _ (List.getElem_mem h2)).ints]
    rfl
  refine wpAny_bind (wpAny_holding (wpAny_call_entry PyProof.Rows.slot_list_sort ⟨_, hoL, rfl⟩ PyProof.Rows.entry_list_sort
    (TS.sort_tups (s := { s with heap := h'.push (seqObj "list" acc.toList.toArray 0), toks := tk }) hoL (by rw [hal]; exact h64) hd1 ok (fun v => TS.code B (g v).2) (fun v hv ns t => ?_) fun out g1 g2 => ⟨_, rfl, ?_⟩) (PyProof.Rows.args_list_sort _)))
  · show TS.code B (TS.intsOf _ v) = _
    rw [t.ints]
  · obtain ⟨e', he'⟩ := PyProof.Rows.sortedHeap_at (vs := acc.toList) (out := out) hoL
    have pL : (out.toList.map g).Perm M := by rw [← gM]; exact g1.map g
    have eL : out.toList = (out.toList.map g).map fun q => Value.ref q.1 := by
      rw [List.map_map]
      refine (List.map_id _).symm.trans (List.map_congr_left fun v hv => ?_)
      have := g1.mem_iff.mp hv
      rw [eM] at this
      obtain ⟨p, _, rfl⟩ := List.mem_map.mp this
      rfl
    have hv : Vals ((out.toList.map g).map fun q => V.ref q.1) out.toList := by
      have := vals_of_refs (out.toList.map g)
      rw [← eL] at this
      exact this
    have hlen : ((out.toList.map g).map fun q => V.ref q.1).length ≤ sizeLine := by
      rw [List.length_map, pL.length_eq, lM, sizeLine_eq]; omega
    refine wpAny_pure ⟨_, rfl, .ref h'.objs.size, upd H h'.objs.size (.lst ((out.toList.map g).map fun q => V.ref q.1)), I1.laid (t' := tk) (fun b u e => ?_) (Nat.le_refl _)
      (show ObjOk X.prog X.w _ _ _ (.lst _) from ⟨hlen, out.toList, e', hv, by rw [Array.toArray_toList]; exact he'⟩), rfl, q _ _ ?_ ?_ (fun p hp => m3 p (pL.mem_iff.mp hp)) (I1.hok.fresh (Nat.le_refl _))⟩
    · have hb : b < h'.objs.size := Heap.lt_size e
      rw [PyProof.Rows.sortedHeap_old (Nat.ne_of_lt hb) (by rw [size_push']; exact Nat.lt_succ_of_lt hb)]
      exact Heap.get?_push_of_some _ e
    · rw [← m2]; exact pL.map _
    · rw [List.pairwise_map]; exact g2
end DL

set_option Elab.async false
set_option linter.all false
set_option maxRecDepth 100000
set_option maxHeartbeats 2000000
/-! DL19: sorted(d), t.count(x) by data -/
namespace DL
open PySem PySem.Spec PyProof.Rows L2
abbrev BB : Int := 1000000
def sortKs (l : List (List Int)) : List (List Int) := l.mergeSort (fun a b => decide (TS.code BB a ≤ TS.code BB b))
def okKs (l : List (List Int)) : Bool := l.all fun k => decide (k.length = (l.headD [0]).length) && decide (1 ≤ k.length) && k.all fun m => decide (0 ≤ m) && decide (m < BB)
def sortDk : List D → Option (List D)
  | [.dic l] => if l.length < 64 ∧ okKs (l.map (·.1)) = true then some ((sortKs (l.map (·.1))).map fun k => .tup (iL k)) else none
  | _ => none
theorem code_inj {B : Int} : ∀ {a b : List Int}, a.length = b.length → TS.Bd B a → TS.Bd B b → TS.code B a = TS.code B b → a = b
  | [], [], _, _, _, _ => rfl
  | d :: r, e :: q, hl, ha, hb, h => by
    have hl' : r.length = q.length := by simpa using hl
    have de : d = e := by
      rcases Int.lt_trichotomy d e with c | c | c
      · have := TS.code_lt hl' ha.tail hb.tail c; omega
      · exact c
      · have := TS.code_lt hl'.symm hb.tail ha.tail c; omega
    subst de
    have h' : TS.code B r = TS.code B q := by
      have : d * B ^ r.length + TS.code B r = d * B ^ q.length + TS.code B q := h
      rw [hl'] at this
      omega
    rw [code_inj hl' ha.tail hb.tail h']
  | [], _ :: _, hl, _, _, _ => by cases hl
  | _ :: _, [], hl, _, _, _ => by cases hl
theorem map_inj_on {α β : Type} {f : α → β} : ∀ {a b : List α}, (∀ x ∈ a, ∀ y ∈ b, f x = f y → x = y) → a.map f = b.map f → a = b
  | [], [], _, _ => rfl
  | x :: a, y :: b, hi, h => by
    rw [List.map_cons, List.map_cons] at h
    obtain ⟨h1, h2⟩ := List.cons_eq_cons.mp h
    rw [hi x List.mem_cons_self y List.mem_cons_self h1, map_inj_on (fun x hx y hy => hi x (List.mem_cons_of_mem _ hx) y (List.mem_cons_of_mem _ hy)) h2]
  | [], _ :: _, _, h => by cases h
  | _ :: _, [], _, h => by cases h
theorem code_one {a b : List (List Int)} {B : Int} {d : Nat} (p : a.Perm b) (ha : ∀ k ∈ a, k.length = d ∧ TS.Bd B k) (pa : a.Pairwise fun x y => TS.code B x ≤ TS.code B y) (pb : b.Pairwise fun x y => TS.code B x ≤ TS.code B y) : a = b := by
  have h := srt_one (p.map (TS.code B)) (by rw [List.pairwise_map]; exact pa) (by rw [List.pairwise_map]; exact pb)
  exact map_inj_on (fun x hx y hy e => code_inj ((ha x hx).1.trans (ha y (p.mem_iff.mpr hy)).1.symm) (ha x hx).2 (ha y (p.mem_iff.mpr hy)).2 e) h
theorem sortKs_perm (l : List (List Int)) : (sortKs l).Perm l := List.mergeSort_perm l _
theorem sortKs_up (l : List (List Int)) : (sortKs l).Pairwise fun x y => TS.code BB x ≤ TS.code BB y :=
  (List.pairwise_mergeSort (le := fun a b => decide (TS.code BB a ≤ TS.code BB b)) (fun a b c h1 h2 => decide_eq_true (Int.le_trans (of_decide_eq_true h1) (of_decide_eq_true h2))) (fun a b => by
    rcases Int.le_total (TS.code BB a) (TS.code BB b) with h | h <;> simp [h]) l).imp fun h => of_decide_eq_true h
theorem okKs_spec {l : List (List Int)} (h : okKs l = true) : ∃ d : Nat, 1 ≤ d ∧ ∀ k ∈ l, k.length = d ∧ TS.Bd BB k := by
  unfold okKs at h
  rw [List.all_eq_true] at h
  refine ⟨(l.headD [0]).length, ?_, fun k hk => ?_⟩
  · cases l with
    | nil => exact Nat.le_refl _
    | cons k l =>
      have := h k List.mem_cons_self
      simp only [Bool.and_eq_true, decide_eq_true_eq] at this
      exact this.1.2
  · have := h k hk
    simp only [Bool.and_eq_true, decide_eq_true_eq, List.all_eq_true] at this
    exact ⟨this.1.1, fun m hm => this.2 m hm⟩
section
variable {K : PySem.W.Frag} {mg : Str → Option Value}
theorem seeAll {Z : Addr} {C H : Hp} {σ : Sl} {ρ : Rho} : ∀ (L : List (Addr × List Int)) {Hf : Hp}, Sm K mg Z C H Hf σ ρ → (∀ q ∈ L, H q.1 = some (.tup (q.2.map V.int))) →
    ∃ Hf', Sm K mg Z C H Hf' σ ρ ∧ Same Hf Hf' ∧ RpA K mg Hf' (L.map fun q => .tup (iL q.2)) (L.map fun q => V.ref q.1)
  | [], _, S, _ => ⟨_, S, Same.refl _, .nil⟩
  | q :: L, _, S, h => by
    obtain ⟨S1, s1⟩ := S.seeT (h q List.mem_cons_self)
    obtain ⟨Hf2, S2, s2, r⟩ := seeAll L S1 fun p hp => h p (List.mem_cons_of_mem _ hp)
    exact ⟨Hf2, S2, s1.trans s2, .cons (.tup (s2 _ _ upd_same) (RpA.of_iL _)) r⟩
theorem RpK.keys {Hf : Hp} : ∀ {l : List (List Int × D)} {kvs : List (List Key × V)}, RpK K mg Hf l kvs → kvs.map (·.1) = (l.map (·.1)).map (·.map Sum.inl)
  | _, _, .nil => rfl
  | _, _, .cons _ r => by rw [List.map_cons, List.map_cons, List.map_cons, RpK.keys r]
theorem c_sortDk : CoD K mg (rSortDk K) sortDk := fun Z W C H Hf σ ρ xs vs Q S r h => by
  unfold sortDk at h
  split at h
  · rename_i l
    split at h
    · rename_i hl
      obtain ⟨h1, h2⟩ := hl
      cases r with
      | cons r1 r2 =>
        cases r2
        cases r1 with
        | @dic a kvs _ e ra =>
          obtain ⟨d, d1, hd⟩ := okKs_spec h2
          refine ⟨a, kvs, l.map (·.1), d, BB, rfl, (e.elim (fun e => .inl (S.ff _ _ e)) fun ⟨o, e⟩ => .inr ⟨o, S.ff _ _ e⟩), ra.keys, by rw [List.length_map]; exact h1, d1, hd, fun L p pm pw hL np => ?_⟩
          have eL : L.map (·.2) = sortKs (l.map (·.1)) := code_one (pm.trans (sortKs_perm _).symm) (fun k hk => hd k (pm.mem_iff.mp hk)) (by rw [List.pairwise_map]; exact pw) (sortKs_up _)
          obtain ⟨Hf2, S2, s2, rL⟩ := seeAll L S hL
          have e2 : (sortKs (l.map (·.1))).map (fun k => D.tup (iL k)) = L.map fun q => .tup (iL q.2) := by rw [← eL, List.map_map]; rfl
          rw [e2] at h
          exact newL S2 (h.up s2) rL np
    · exact h.elim
  · exact h.elim
end
end DL

set_option Elab.async false
set_option linter.all false
set_option maxRecDepth 100000
set_option maxHeartbeats 2000000
/-! DL20: try: body, except E as err: y = .. isinstance(err, ValueError) .. -/
namespace DL
open PySem PySem.Spec PyProof.Rows L2
/-- an own error that is caught and asked -/
structure Ec (K : PySem.W.Frag) (mg : Str → Option Value) (x : Str) : Prop where
  ex : ∃ C, mg x = some (.ref C) ∧ ExcC K C ∧ PySem.W.exmOne K (.ref C) (.ref C) = some true ∧ PySem.W.kitOne K (.ref C) (.type "ValueError") = some true
def sTry (i j : Nat) (x : Str) (v : D) (b : SD) : SD := fun ρ => match b ρ with
  | .er e ρ' => if e = x ∧ i < ρ'.length ∧ i ≠ j then .ok (.nx ((ρ'.set i none).set j (some (.fz v)))) else .bad
  | r => r
section
variable {K : PySem.W.Frag} {mg : Str → Option Value}
theorem Sm.gone {Z : Addr} {C H Hf : Hp} {σ : Sl} {ρ : Rho} (S : Sm K mg Z C H Hf σ ρ) (i : Nat) (x : Option V) : Sm K mg Z C H Hf (σ.set i x) (ρ.set i none) := by
  have f : ∀ {j c}, (ρ.set i none)[j]? = some (some c) → i ≠ j ∧ ρ[j]? = some (some c) := fun {j c} q => by
    by_cases hj : i = j
    · subst hj
      by_cases hl : i < ρ.length
      · rw [List.getElem?_set_self hl] at q; cases q
      · rw [List.getElem?_eq_none (by simpa using hl)] at q; cases q
    · rw [List.getElem?_set_ne hj] at q; exact ⟨hj, q⟩
  refine ⟨S.ff, S.cf, S.dj, by simpa using S.ln, fun j c q => ?_, fun j k c d b q1 q2 o1 o2 s1 s2 => ?_, S.cm⟩
  · obtain ⟨hj, q⟩ := f q
    obtain ⟨v, e, r⟩ := S.sl j c q
    exact ⟨v, by rw [List.getElem?_set_ne hj]; exact e, r⟩
  · obtain ⟨h1, q1⟩ := f q1
    obtain ⟨h2, q2⟩ := f q2
    rw [List.getElem?_set_ne h1] at s1
    rw [List.getElem?_set_ne h2] at s2
    exact S.ds j k c d b q1 q2 o1 o2 s1 s2
abbrev teIs (K : PySem.W.Frag) (i : Nat) (a D : Addr) : TE := tCB (rIsE K D a) (tCons (tVar i) (tCons (tC (.ty "ValueError")) tNil))
theorem run_is {i : Nat} {a D : Addr} {σ : Sl} {H : Hp} {Q : VK} (e : σ[i]? = some (some (.ref a))) (hk : PySem.W.kitOne K (.ref D) (.type "ValueError") = some true) (h : Q (.bl true) H) : teIs K i a D σ H Q :=
  ⟨.ref a, e, .ty "ValueError", .type "ValueError", true, rfl, fun u r => r, hk, h⟩
variable {X : Cx} {W : WX} {body : List Stmt} {tb : WX → TS} {db : SD} {x y err : Str} {np p1 p2 p3 p4 p5 p6 pos pos' : Pos}
theorem pe_is {i : Nat} {a D : Addr} {oe : Obj} {pn : List (Addr × Obj)} (C : ExcC X.K D) (hz : Zc (.ref D) none oe) (hf : ∃ vs, oe.data = .fields vs) (B : Bt X.mg) (mV : X.mg "ValueError" = none)
    (hN : X.N[i]? = some err) (hv : Vis X.env.scope err) (hd : (err == ("__debug__" : Str)) = false) (hcd : (err == ("__classdict__" : Str)) = false) (hg : Gl X "isinstance") (hgv : Gl X "ValueError")
    (h1 : starEach [.Name err p2, .Name "ValueError" p3] X.env = (false, eval (.Name err p2) X.env) :: starEach [.Name "ValueError" p3] X.env) (h2 : starEach [.Name "ValueError" p3] X.env = (false, eval (.Name "ValueError" p3) X.env) :: starEach [] X.env) (hpl : (backTo p4 (starEach [.Name "ValueError" p3] X.env)).any (·.1) = false) :
    PE (X.suite a ((a, oe) :: pn)) (.Call (.Name "isinstance" p1) [.Name err p2, .Name "ValueError" p3] [] p4) (teIs X.K i a D) :=
  pe_callB (call_isE C hz hf) hg B.isinstance bb_isinstance (pa_cons (pe_var (X := X.suite a ((a, oe) :: pn)) hN hv hd hcd) (pa_cons (pe_bltn (X := X.suite a ((a, oe) :: pn)) (v := .ty "ValueError") hgv mV (show bootBuiltins "ValueError" = some (.type "ValueError") by decide +kernel) rfl (by decide) (by decide)) pa_nil h2) h1) (by decide) (by decide) h1 hpl
/-- the whole statement, the suite one assignment of an expression e that asks the error -/
theorem try_gen {e : Expr} (i j : Nat) {te : Addr → Addr → TE} {v : D} (nd : X.N.Nodup) (hs : X.stack = X.env :: X.outer) (hf : X.env.frame = some X.env.locals) (hi : X.N[i]? = some err) (hln : X.env.kindOf err = some .local) (hg : Gl X x) (hdx : (x == ("__debug__" : Str)) = false) (tk : Takes X W) (ec : Ec X.K X.mg x)
    (hj : X.N[j]? = some y) (hly : Loc X.env.scope y) (hfy : X.fn y = true ∨ X.env.scope.names.lookup y = some .local) (hsw : swapsWith e (some (.Name y p5)) p6.line X.env = pure false)
    (hb : ∀ (W : WX) (pn : List (Addr × Obj)) (xe : Value → Shared → Prop), Takes (X.tr pn xe) W → PassesOwn (model X.prog X.w) X.A X.env xe → PSs (X.tr pn xe) body (tb W)) (hbw : ∀ W : WX, WS X.K X.mg W (tb W) db)
    (he : ∀ (a D : Addr) (oe : Obj) (pn : List (Addr × Obj)), ExcC X.K D → Zc (.ref D) none oe → (∃ vs, oe.data = .fields vs) → PE (X.suite a ((a, oe) :: pn)) e (te a D))
    (hw : ∀ (a D : Addr) Z C H Hf σ ρ (Q : VK), Sm X.K X.mg Z C H Hf σ ρ → σ[i]? = some (some (.ref a)) → PySem.W.kitOne X.K (.ref D) (.type "ValueError") = some true → (∀ v' H' Hf', Same Hf Hf' → Sm X.K X.mg Z C H' Hf' σ ρ → Rp X.K X.mg Hf' v v' → Q v' H') → te a D σ H Q) :
    DS X W (.Try body [.ExceptHandler (some (.Name x np)) (some err) [.Assign [.Name y p5] e p6] pos'] [] [] pos) (fun Dn σ H => ∃ C, X.mg x = some (.ref C) ∧ tb (wAs X.K (.ref C) i (fun a cls d Dn σ H => ∃ D, cls = .ref D ∧ d = none ∧ ExcC X.K D ∧ tAsg (te a D) (gName j) Dn σ H) W Dn) Dn σ H) (sTry i j x v db) := by
  obtain ⟨C, gC, ex, e1, e2⟩ := ec.ex
  have base := ps_try_as (pos := pos) (np := np) (pos' := pos') (x := x) (c := .ref C) (tb := tb) (ts := fun a cls d Dn σ H => ∃ D, cls = .ref D ∧ d = none ∧ ExcC X.K D ∧ tAsg (te a D) (gName j) Dn σ H) hs hf nd hi hln ⟨hg, hdx, .inl gC⟩ tk hb
    (suite := []) (b₀ := .Assign [.Name y p5] e p6) (fun a oe cls d pn hz hf' => ⟨fun pins s σ H Dn I h => by
      obtain ⟨D, rfl, rfl, cD, h⟩ := h
      exact (pss_one (ps_set (X := X.suite a ((a, oe) :: pn)) nd hj hly (he a D oe pn cD hz hf') hsw hfy)).run pins s σ H Dn I h⟩)
  refine ⟨⟨fun pins s σ H Dn I h => base.run pins s σ H Dn I ?_⟩, ⟨fun Z C' H Hf σ ρ N S h => ⟨C, gC, ?_⟩⟩⟩
  · obtain ⟨C2, g2, h⟩ := h
    rw [gC] at g2
    cases g2
    exact h
  · refine (hbw (wAs X.K (.ref C) i (fun a cls d Dn σ H => ∃ D, cls = .ref D ∧ d = none ∧ ExcC X.K D ∧ tAsg (te a D) (gName j) Dn σ H) W N)).run Z C' H Hf σ ρ N S ?_
    unfold sTry at h
    cases q : db ρ with
    | ok fl => rw [q] at h; cases fl <;> exact h
    | bad => rw [q] at h; exact h
    | er e0 ρ' =>
      rw [q] at h
      dsimp only at h
      split at h
      · rename_i hc
        obtain ⟨rfl, hil, hij⟩ := hc
        intro σ' H' Hf' a s' S' hm
        rw [gC] at hm
        cases hm
        refine ⟨true, e1, fun _ a na => ⟨C, rfl, rfl, ex, ?_⟩, fun z => by cases z⟩
        have S2 := S'.gone i (some (.ref a))
        refine hw a C Z C' H' Hf' _ _ _ S2 (List.getElem?_set_self (by rw [← S'.ln]; exact hil)) e2 fun v' H2 Hf2 s2 S3 r => ?_
        have S4 := (S3.set j r).gone i none
        have e3 : ((ρ'.set i none).set j (some (B.fz v))).set i none = (ρ'.set i none).set j (some (.fz v)) := by
          rw [List.set_comm _ _ (Ne.symm hij), List.set_set]
        rw [e3] at S4
        exact h _ _ _ (s'.trans s2) S4
      · exact h.elim
/-- try: z = e0, except E as err: y = isinstance(err, ValueError) -/
theorem k_try1 {e0 : Expr} {z : Str} {pz pb : Pos} {t0 : WX → TE} {d0 : ED} (i j l : Nat) (nd : X.N.Nodup) (B : Bt X.mg) (mV : X.mg "ValueError" = none) (tk : Takes X W) (ec : Ec X.K X.mg x)
    (h0 : ∀ (W : WX) (pn : List (Addr × Obj)) (xe : Value → Shared → Prop), Takes (X.tr pn xe) W → PE (X.tr pn xe) e0 (t0 W)) (h0w : ∀ W : WX, WE X.K X.mg W (t0 W) d0)
    (hs : X.stack = X.env :: X.outer := by rfl) (hf : X.env.frame = some X.env.locals := by rfl) (hi : X.N[i]? = some err := by rfl) (hln : X.env.kindOf err = some .local := by rfl) (hg : Gl X x := by rfl) (hdx : (x == ("__debug__" : Str)) = false := by decide)
    (hj : X.N[j]? = some y := by rfl) (hly : Loc X.env.scope y := by first | exact .inl rfl | exact .inr rfl) (hfy : X.fn y = true ∨ X.env.scope.names.lookup y = some .local := by first | exact .inl rfl | exact .inr rfl)
    (hsw : swapsWith (.Call (.Name "isinstance" p1) [.Name err p2, .Name "ValueError" p3] [] p4) (some (.Name y p5)) p6.line X.env = pure false := by rfl)
    (hl : X.N[l]? = some z := by rfl) (hlz : Loc X.env.scope z := by first | exact .inl rfl | exact .inr rfl) (hfz : X.fn z = true ∨ X.env.scope.names.lookup z = some .local := by first | exact .inl rfl | exact .inr rfl) (hsz : swapsWith e0 (some (.Name z pz)) pb.line X.env = pure false := by rfl)
    (hd : (err == ("__debug__" : Str)) = false := by decide) (hcd : (err == ("__classdict__" : Str)) = false := by decide) (hv : Vis X.env.scope err := by first | exact Or.inl rfl | exact Or.inr (Or.inl rfl) | exact Or.inr (Or.inr rfl)) (hgi : Gl X "isinstance" := by rfl) (hgv : Gl X "ValueError" := by rfl)
    (h1 : starEach [.Name err p2, .Name "ValueError" p3] X.env = (false, eval (.Name err p2) X.env) :: starEach [.Name "ValueError" p3] X.env := by rfl) (h2 : starEach [.Name "ValueError" p3] X.env = (false, eval (.Name "ValueError" p3) X.env) :: starEach [] X.env := by rfl) (hpl : (backTo p4 (starEach [.Name "ValueError" p3] X.env)).any (·.1) = false := by rfl) :
    DS X W (.Try [.Assign [.Name z pz] e0 pb] [.ExceptHandler (some (.Name x np)) (some err) [.Assign [.Name y p5] (.Call (.Name "isinstance" p1) [.Name err p2, .Name "ValueError" p3] [] p4) p6] pos'] [] [] pos)
      (fun Dn σ H => ∃ C, X.mg x = some (.ref C) ∧ tAsg (t0 (wAs X.K (.ref C) i (fun a cls d Dn σ H => ∃ D, cls = .ref D ∧ d = none ∧ ExcC X.K D ∧ tAsg (teIs X.K i a D) (gName j) Dn σ H) W Dn)) (gName l) Dn σ H) (sTry i j x (.bl true) (sSet l d0)) :=
  try_gen (tb := fun W => tAsg (t0 W) (gName l)) (te := fun a D => teIs X.K i a D) i j nd hs hf hi hln hg hdx tk ec hj hly hfy hsw
    (fun W pn xe tk po => pss_one (ps_set (X := X.tr pn xe) nd hl hlz (h0 W pn xe tk) hsz hfz)) (fun W => s_set (h0w W))
    (fun a D oe pn cD hz hf' => pe_is cD hz hf' B mV hi hv hd hcd hgi hgv h1 h2 hpl) (fun a D Z C H Hf σ ρ Q S e hk h => run_is e hk (h _ _ _ (Same.refl _) S (.bl true)))
end
end DL

set_option Elab.async false
set_option linter.all false
set_option maxRecDepth 100000
set_option maxHeartbeats 2000000
/-! DL21: the end: the hook with one more Bool, the law's call -/
namespace DL
open PySem PySem.Spec PyProof.Rows L2
def obsE (n : Nat) (fa : List He.Fa) (fn : List He.DefD) (ex : PySem.W.Frag → Bool) (g : Addr → Option Obj) : He.AlD × Bool := (He.obsD fa fn (He.frG g (He.asD g n)), ex (He.frG g (He.asD g n)))
def hookE (n : Nat) (fa : List He.Fa) (fn : List He.DefD) (ex : PySem.W.Frag → Bool) : PySem.W.Hook where
  α := He.AlD × Bool
  obs := fun s => obsE n fa fn ex s.heap.get?
  val := fun _ => (He.valD fn, true)
  says := fun _ h => ∃ K : PySem.W.Frag, K.In h ∧ He.SaysD fa fn K ∧ ex K = true
  of := fun _ _ e => ⟨_, He.frG_in, congrArg (fun z : He.AlD × Bool => z.1) e, congrArg (fun z : He.AlD × Bool => z.2) e⟩
  keeps := fun _ _ _ ⟨K, hK, c⟩ k => ⟨K, PySem.W.Frag.In.keeps hK k, c⟩
theorem obsE_eq {n : Nat} {fa : List He.Fa} {fn : List He.DefD} {ex : PySem.W.Frag → Bool} {g : Addr → Option Obj} {s : Shared} (h : ∀ a, g a = s.heap.get? a) : obsE n fa fn ex g = (hookE n fa fn ex).obs s := by
  have e : g = s.heap.get? := funext h
  rw [e] <;> rfl
/-- what is asked of a class that is caught and asked -/
def ecB (x : Str) (K : PySem.W.Frag) : Bool :=
  decide (PySem.W.findIn K (.ref (He.ga K x)) "__getattribute__" = some (some (.builtin "BaseException.__getattribute__"))) && decide (PySem.W.findIn K (.ref (He.ga K x)) "__getattr__" = some none) &&
  decide (PySem.W.subIn K (.ref (He.ga K x)) (.type "BaseException") = some true) && PySem.W.hasDictIn K (He.ga K x) && decide (PySem.W.findIn K (.ref (He.ga K x)) "__class__" = some (some (.builtin "object.__class__"))) &&
  decide (PySem.W.specialIn K (.builtin "object.__class__") "__get__" = some (some (.builtin "getset_descriptor.__get__"))) && decide (PySem.W.takesIn K (.builtin "object.__class__") = some true) && decide (PySem.W.mroIn K (He.ga K x) (.type "object") = some true) &&
  decide (PySem.W.exmOne K (.ref (He.ga K x)) (.ref (He.ga K x)) = some true) && decide (PySem.W.kitOne K (.ref (He.ga K x)) (.type "ValueError") = some true)
theorem ecB_ok {K : PySem.W.Frag} {mg : Str → Option Value} {x : Str} (h : ecB x K = true) (g : mg x = some (.ref (He.ga K x))) : Ec K mg x := by
  unfold ecB at h
  simp only [Bool.and_eq_true, decide_eq_true_eq] at h
  obtain ⟨⟨⟨⟨⟨⟨⟨⟨⟨h1, h2⟩, h3⟩, h4⟩, h5⟩, h6⟩, h7⟩, h8⟩, h9⟩, h10⟩ := h
  exact ⟨_, g, ⟨h1, h2, h3, h4, h5, h6, h7, h8⟩, h9, h10⟩
theorem er_ok {K : PySem.W.Frag} {mg : Str → Option Value} {x : Str} (h : (He.Fa.exc x).ok K = true) (g : mg x = some (.ref (He.ga K x))) : Er K mg x := by
  obtain ⟨h1, h2, h3, h4⟩ := He.exc_ok h
  exact ⟨_, g, h1, h2, h3, h4⟩
/-- the law's promise -/
def spL (K : PySem.W.Frag) (mg : Str → Option Value) (F : FF) : Sp := fun vs H Q _ => spP K mg F vs H Q fun _ _ _ => False
theorem law_asks {K : PySem.W.Frag} {mg : Str → Option Value} {F : FF} {H : Hp} {a : Addr} {ns : List Int} (hF : F [.scr ns] = .ok (.val (.bl true))) (hS : SqL K H a (ns.map V.int)) : spL K mg F [.ref a] H (fun v _ => v = .bl true) fun _ _ _ => False := by
  refine ⟨[.scr ns], H, fun _ => none, Same.refl _, fun _ _ e => (by cases e), fun _ _ e => (by cases e), fun _ _ e => (by cases e), .cons (.scr hS) .nil, ?_⟩
  rw [hF]
  intro v H' Hf' _ _ _ _ r
  cases r
  rfl
end DL

set_option Elab.async false
set_option linter.all false
set_option maxRecDepth 100000
set_option maxHeartbeats 4000000
/-! DL22: x[i] += e; a new dict beside a value; comprehensions over a dict that is locked -/
namespace DL
open PySem PySem.Spec PyProof.Rows L2
/-! ### xs[i] += e -/
def tgL (K : PySem.W.Frag) : V → V → Hp → VK → Prop := fun o i H Q => ∃ p xs k v, o = .ref p ∧ i = .int k ∧ SqL K H p xs ∧ 0 ≤ k ∧ atI xs k = some v ∧ Q v H
theorem pg_list {X : Cx} : PGet X (tgL X.K) := by
  intro pins s σ H o i ov iv Q I ro ri h
  obtain ⟨p, xs, k, v, rfl, rfl, hq, h0, he, q⟩ := h
  cases ro
  obtain ⟨t, rfl⟩ := ri
  obtain ⟨its, r, pl, hz⟩ := I.list hq
  obtain ⟨j, h1, h2, h3, h4, h5⟩ := atI_get he
  obtain ⟨u, eu, ru⟩ := r.get h2
  have hl := r.length
  have hn := line63
  have hj : k.toNat = j := by
    rw [seqIndex_of h0 h5] at h1
    exact Option.some.inj h1
  exact wpAny_getItem_list pl.isList h0 (by omega) (by rw [hj]; simpa using eu) ⟨v, H, I, ru, q⟩
def sAugL (i : Nat) (ix e : ED) : SD := fun ρ => match owAt ρ i with
  | some _ => (ix ρ).bind fun q => match owAt q.2 i, q.1 with
    | some (_, l), .int k => (match decide (0 ≤ k), atI l k with
      | true, some (.int n) => (e q.2).bind fun p => match owAt p.2 i, p.1 with
        | some (t', l'), .int m => (match ixN l'.length k with
          | some j => .ok (.nx (p.2.set i (some (.ow t' (l'.set j (.int (n + m)))))))
          | none => .bad)
        | _, _ => .bad
      | _, _ => .bad)
    | _, _ => .bad
  | none => .bad
section
variable {K : PySem.W.Frag} {mg : Str → Option Value} {W : WX}
theorem s_augL {i : Nat} {ti te : TE} {ix e : ED} (hi : WE K mg W ti ix) (he : WE K mg W te e) : WS K mg W (tAugS (tVar i) ti te (tgL K) (ipI fun i j => i + j) rSetL) (sAugL i ix e) := ⟨fun Z C H Hf σ ρ N S h => by
  unfold sAugL at h
  cases q : owAt ρ i with
  | none => rw [q] at h; exact h.elim
  | some tl =>
    rw [q] at h
    obtain ⟨a, xs, es, ea, ra⟩ := S.owned q
    refine ⟨.ref a, es, hi.run Z C H Hf σ ρ _ S (PostS.ebind h fun y ρ2 u H2 Hf2 s2 S2 ry h2 => ?_)⟩
    dsimp only at h2
    cases q1 : owAt ρ2 i with
    | none => rw [q1] at h2; exact h2.elim
    | some tl1 =>
      obtain ⟨t1, l1⟩ := tl1
      rw [q1] at h2
      obtain ⟨a1, xs1, es1, ea1, ra1⟩ := S2.owned q1
      have := ref_eq es es1
      subst this
      cases y with
      | int k =>
        cases ry
        dsimp only at h2
        by_cases h0 : 0 ≤ k
        · rw [decide_eq_true h0] at h2
          cases q2 : atI l1 k with
          | none => rw [q2] at h2; exact h2.elim
          | some d =>
            rw [q2] at h2
            cases d with
            | int n =>
              dsimp only at h2
              obtain ⟨v, ev, rv⟩ := atI_rp ra1 q2
              cases rv
              refine ⟨a1, xs1, k, _, rfl, rfl, .inl (.inl ea1), h0, ev, he.run Z C H2 Hf2 σ ρ2 _ S2 (PostS.ebind h2 fun z ρ3 w H3 Hf3 s3 S3 rz h3 => ?_)⟩
              dsimp only at h3
              cases q3 : owAt ρ3 i with
              | none => rw [q3] at h3; exact h3.elim
              | some tl3 =>
                obtain ⟨t3, l3⟩ := tl3
                rw [q3] at h3
                obtain ⟨a3, xs3, es3, ea3, ra3⟩ := S3.owned q3
                have := ref_eq es es3
                subst this
                cases z with
                | int m =>
                  cases rz
                  dsimp only at h3
                  cases q4 : ixN l3.length k with
                  | none => rw [q4] at h3; exact h3.elim
                  | some j =>
                    rw [q4] at h3
                    exact ⟨n, m, rfl, rfl, a3, xs3, k, j, rfl, rfl, ea3, by rw [← ra3.length]; exact q4, h3 _ _ _ (Same.refl _) (S3.chg (owAt_eq q3) es3 (ra3.set (.int (n + m)) j))⟩
                | _ => exact h3.elim
            | _ => exact h2.elim
        · rw [decide_eq_false h0] at h2; exact h2.elim
      | _ => exact h2.elim⟩
theorem k_augL {X : Cx} {W : WX} (i : Nat) {x : Str} {px tpos pos : Pos} {ix e : Expr} {ti te : TE} {di de : ED} (hi : DE X W ix ti di) (he : DE X W e te de) (hN : X.N[i]? = some x := by rfl) (hv : Vis X.env.scope x := by first | exact Or.inl rfl | exact Or.inr (Or.inl rfl) | exact Or.inr (Or.inr rfl)) (hd : (x == ("__debug__" : Str)) = false := by decide) (hcd : (x == ("__classdict__" : Str)) = false := by decide)
    (ha : ∀ ov iv new, augStore ix ov iv new = (do holding [new, ov, iv] (setItem ov iv new); release [new, ov, iv] []; pure .next) := by intros; rfl) :
    DS X W (.AugAssign (.Subscript (.Name x px) ix tpos) .Add e pos) (tAugS (tVar i) ti te (tgL X.K) (ipI fun i j => i + j) rSetL) (sAugL i di de) := ⟨ps_augS (pe_var hN hv hd hcd) hi.p pg_list he.p ip_add set_list ha, s_augL hi.w he.w⟩
/-! ### d, y = {}, e -/
def sParD (i j : Nat) (e : ED) : SD := fun ρ => (e ρ).bind fun p => if i ≠ j ∧ i < p.2.length then .ok (.nx ((p.2.set i (some (.od []))).set j (some (.fz p.1)))) else .bad
theorem s_parD {i j : Nat} {te : TE} {de : ED} (he : WE K mg W te de) : WS K mg W (tPar i j (tCons tDNewT (tCons te tNil))) (sParD i j de) := ⟨fun Z C H Hf σ ρ N S h => fun p np => by
  have nC := S.freeC np
  have S1 := S.priv (.dT []) np
  refine he.run Z (upd C p (.dT [])) (upd H p (.dT [])) Hf σ ρ _ S1 ?_
  have h' : PostS K mg Z W C Hf N ((de ρ).bind fun p => if i ≠ j ∧ i < p.2.length then .ok (.nx ((p.2.set i (some (.od []))).set j (some (.fz p.1)))) else .bad) := h
  cases q : de ρ with
  | bad => rw [q] at h'; exact h'.elim
  | er e r =>
    rw [q] at h'
    intro H' Hf' a s1 S' m
    obtain ⟨Sp, _⟩ := S'.pub nC
    exact h' σ H' Hf' a s1 Sp m
  | ok r =>
    obtain ⟨x, ρ1⟩ := r
    rw [q] at h'
    intro v H' Hf' s1 S' r
    have h2 : PostS K mg Z W C Hf N (if i ≠ j ∧ i < ρ1.length then .ok (.nx ((ρ1.set i (some (.od []))).set j (some (.fz x)))) else .bad) := h'
    split at h2
    · rename_i hc
      obtain ⟨Sp, nO⟩ := S'.pub nC
      refine ⟨.ref p, v, rfl, h2 _ H' Hf' s1 ((Sp.setB i (v := .ref p) (b := .od []) ⟨p, [], rfl, S'.cf _ _ upd_same, S'.dj _ _ upd_same, nC, .nil⟩ fun _ k c b eb qk o z => ?_).set j r)⟩
      have : b = p := by cases eb; rfl
      subst this
      exact nO k c qk o z
    · exact h2.elim⟩
theorem k_parD {X : Cx} {W : WX} (i j : Nat) {x y : Str} {b : Expr} {px py pt pt2 pd pos : Pos} {kt k2 : Nat} {te : TE} {de : ED} (nd : X.N.Nodup) (hb : DE X W b te de) (hc : X.calm = true := by rfl) (hi : X.N[i]? = some x := by rfl) (hj : X.N[j]? = some y := by rfl) (hij : i ≠ j := by decide)
    (hx : X.env.scope.names.lookup x = some .local := by rfl) (hy : X.env.scope.names.lookup y = some .local := by rfl) (hw : swappedStores [.Tuple [.Name x px, .Name y py] kt pt] (.Tuple [.Dict [] [] pd, b] k2 pt2) X.env = pure (some [x, y]) := by rfl)
    (hs : swapsWithSole [.Tuple [.Name x px, .Name y py] kt pt] (.Tuple [.Dict [] [] pd, b] k2 pt2) pos.line X.env = pure false := by rfl) (h1 : starEach [.Dict [] [] pd, b] X.env = (false, eval (.Dict [] [] pd) X.env) :: starEach [b] X.env := by rfl) (h2 : starEach [b] X.env = (false, eval b X.env) :: starEach [] X.env := by rfl) :
    DS X W (.Assign [.Tuple [.Name x px, .Name y py] kt pt] (.Tuple [.Dict [] [] pd, b] k2 pt2) pos) (tPar i j (tCons tDNewT (tCons te tNil))) (sParD i j de) := ⟨ps_par hc nd hi hj hij hx hy (pa_cons pe_dnewT (pa_cons hb.p pa_nil h2) h1) hw hs, s_parD hb.w⟩
/-! ### a dict that is locked -/
/-- the reading may lock, or finds the thing locked -/
def tLkE (t : TE) : TE := fun σ H Q => tLockE t σ H Q ∨ t σ H Q
def tLkS (t : TS) : TS := fun D σ H => tLock t D σ H ∨ t D σ H
theorem pe_lk {X : Cx} {e : Expr} {t : TE} (h : PE X e t) : PE X e (tLkE t) := ⟨fun pins s σ H Q I hw => by
  rcases hw with hw | hw
  · exact (pe_lock h).run pins s σ H Q I hw
  · exact h.run pins s σ H Q I hw⟩
theorem ps_lk {X : Cx} {st : Stmt} {t : TS} (h : PS X st t) : PS X st (tLkS t) := ⟨fun pins s σ H D I hw => by
  rcases hw with hw | hw
  · exact (ps_lock h).run pins s σ H D I hw
  · exact h.run pins s σ H D I hw⟩
/-- slot i's dict is locked -/
def PkD (K : PySem.W.Frag) (mg : Str → Option Value) (i : Nat) (H Hf : Hp) (σ : Sl) (ρ : Rho) : Prop := ∃ a o kvs l, ρ[i]? = some (some (.fz (.dic l))) ∧ σ[i]? = some (some (.ref a)) ∧ Hf a = some (.frz o (.dT kvs)) ∧ RpK K mg Hf l kvs
def keysD (l : List (List Int × D)) : List D := l.map fun kv => .tup (iL kv.1)
def iDic (e : ED) : ID := fun ρ => (e ρ).bind fun p => match p.1 with
  | .dic l => .ok (keysD l, p.2)
  | _ => .bad
def oLk (i : Nat) (o : AD) : AD := fun ρ => match ρ[i]? with
  | some (some (.fz (.dic _))) => noEr (o ρ)
  | _ => .bad
theorem RpK.get {Hf : Hp} : ∀ {l : List (List Int × D)} {kvs : List (List Key × V)} {n : Nat} {kv : List Key × V}, RpK K mg Hf l kvs → kvs[n]? = some kv → ∃ k d, l[n]? = some (k, d) ∧ kv.1 = k.map Sum.inl
  | _, _, n, kv, .nil, e => by simp at e
  | _, _, 0, kv, .cons (k := k) r t, e => by simp at e; subst e; exact ⟨k, _, rfl, rfl⟩
  | _, _, n + 1, kv, .cons r t, e => by
    obtain ⟨k, d, h1, h2⟩ := RpK.get (n := n) t (by simpa using e)
    exact ⟨k, d, by simpa using h1, h2⟩
theorem RpK.len {Hf : Hp} : ∀ {l : List (List Int × D)} {kvs : List (List Key × V)}, RpK K mg Hf l kvs → l.length = kvs.length
  | _, _, .nil => rfl
  | _, _, .cons _ t => by simp [RpK.len t]
theorem kV_ints (k : List Int) : (k.map (Sum.inl : Int → Key)).map kV = k.map V.int := by
  rw [List.map_map]; rfl
theorem y_keys {Hf : Hp} {a : Addr} {o : Obj} {kvs : List (List Key × V)} {l : List (List Int × D)} (e : Hf a = some (.frz o (.dT kvs))) (r : RpK K mg Hf l kvs) : Ylds K mg Hf (keysD l) (Itkt a o kvs) := fun i H1 Hf1 s1 ff => by
  have e1 : H1 a = some (.frz o (.dT kvs)) := ff _ _ (s1 _ _ e)
  have hl := r.len
  refine ⟨fun d hd => ⟨⟨e1, ?_⟩, fun x H' hy => ?_⟩, fun hi => ⟨e1, ?_⟩⟩
  · have := (List.getElem?_eq_some_iff.mp hd).1
    unfold keysD at this; rw [List.length_map] at this; omega
  · obtain ⟨rfl, k, v, q, g1, rfl, g2⟩ := hy
    obtain ⟨kk, d', h1, h2⟩ := r.get g1
    have hk : k = kk.map Sum.inl := h2
    subst hk
    rw [kV_ints] at g2
    have hdd : d = .tup (iL kk) := by
      unfold keysD at hd
      rw [List.getElem?_map, h1] at hd
      cases hd; rfl
    subst hdd
    cases eq : Hf1 q with
    | some u =>
      have := ff _ _ eq
      rw [g2] at this; cases this
      exact ⟨Hf1, Same.refl _, Same.refl _, ff, fun a o h n => (by rw [h] at n; cases n), .tup eq (RpA.of_iL kk)⟩
    | none =>
      refine ⟨upd Hf1 q (.tup (kk.map V.int)), same_upd eq, Same.refl _, fun b u h => ?_, fun b u h n => ?_, .tup upd_same (RpA.of_iL kk)⟩
      · by_cases z : b = q
        · subst z; rw [upd_same] at h; cases h; exact g2
        · rw [upd_ne z] at h; exact ff _ _ h
      · by_cases z : b = q
        · subst z; rw [upd_same] at h; cases h; exact .inr ⟨_, rfl⟩
        · rw [upd_ne z] at h; rw [h] at n; cases n
  · unfold keysD at hi; rw [List.length_map] at hi; omega
theorem i_dicP (i : Nat) : ∀ Z C H Hf σ ρ R, Sm K mg Z C H Hf σ ρ → PkD K mg i H Hf σ ρ → Post K mg Z W C σ Hf (RI K mg) R (iDic (dVar i) ρ) → iKeys (tVar i) σ H R := fun Z C H Hf σ ρ R S pk h => by
  obtain ⟨a, o, kvs, l, e1, e2, e3, rk⟩ := pk
  have ev : iDic (dVar i) ρ = .ok (keysD l, ρ) := by unfold iDic dVar; rw [e1]; rfl
  rw [ev] at h
  exact ⟨.ref a, e2, a, o, rfl, .inr ⟨kvs, S.ff _ _ e3, h.done S (y_keys e3 rk)⟩⟩
/-- the thing at a is another one, which bears the same -/
structure Sw (H H' : Hp) (a : Addr) (u u' : HO) : Prop where
  at0 : H a = some u
  eq : H' = upd H a u'
theorem Rp.sw {kvs : List (List Key × V)} {u u' : HO} {Hf : Hp} {a : Addr} (h0 : Hf a = some u) (hu : u = .dT kvs ∨ ∃ o, u = .frz o (.dT kvs)) (hu' : u' = .dT kvs ∨ ∃ o, u' = .frz o (.dT kvs)) :
    (∀ (d : D) (v : V), Rp K mg Hf d v → Rp K mg (upd Hf a u') d v) := by
  have rd' : Rd (upd Hf a u') a (.dT kvs) := by
    rcases hu' with rfl | ⟨o, rfl⟩
    · exact .inl upd_same
    · exact .inr ⟨o, upd_same⟩
  have lst : ∀ {b : Addr} {xs : List V}, Hf b = some (.lst xs) → (upd Hf a u') b = some (.lst xs) := fun {b xs} e => by
    have ne : b ≠ a := fun z => by
      subst z; rw [h0] at e
      rcases hu with rfl | ⟨o, rfl⟩ <;> cases e
    rw [upd_ne ne]; exact e
  have tup : ∀ {b : Addr} {xs : List V}, Hf b = some (.tup xs) → (upd Hf a u') b = some (.tup xs) := fun {b xs} e => by
    have ne : b ≠ a := fun z => by
      subst z; rw [h0] at e
      rcases hu with rfl | ⟨o, rfl⟩ <;> cases e
    rw [upd_ne ne]; exact e
  have dic : ∀ {b : Addr} {ks : List (List Key × V)}, Rd Hf b (.dT ks) → Rd (upd Hf a u') b (.dT ks) := fun {b ks} e => by
    by_cases z : b = a
    · subst z
      have : ks = kvs := by
        rcases e with e | ⟨o, e⟩ <;> rw [h0] at e <;> rcases hu with rfl | ⟨o', rfl⟩ <;> cases e <;> rfl
      subst this; exact rd'
    · rcases e with e | ⟨o, e⟩
      · exact .inl (by rw [upd_ne z]; exact e)
      · exact .inr ⟨o, by rw [upd_ne z]; exact e⟩
  have scr : ∀ {b : Addr} {xs : List V}, SqL K Hf b xs → SqL K (upd Hf a u') b xs := fun {b xs} e => by
    rcases e with (e | ⟨o, e⟩) | e
    · exact .inl (.inl (lst e))
    · have ne : b ≠ a := fun z => by
        subst z; rw [h0] at e
        rcases hu with rfl | ⟨o', rfl⟩ <;> cases e
      exact .inl (.inr ⟨o, by rw [upd_ne ne]; exact e⟩)
    · exact .inr e
  intro d v
  refine Rp.rec (K := K) (mg := mg) (H := Hf) (motive_1 := fun d v _ => Rp K mg (upd Hf a u') d v) (motive_2 := fun ds vs _ => RpA K mg (upd Hf a u') ds vs) (motive_3 := fun ds vs _ => RpK K mg (upd Hf a u') ds vs)
    .non (fun b => .bl b) (fun i => .int i) (fun x => .str x) (fun e _ ih => .lst (lst e) ih) (fun e _ ih => .tup (tup e) ih) (fun e _ ih => .dic (dic e) ih) (fun e => .fn e) (fun e => .scr (scr e)) .nil (fun _ _ ih1 ih2 => .cons ih1 ih2) .nil (fun _ _ ih1 ih2 => .cons ih1 ih2)
theorem RpA.sw {kvs : List (List Key × V)} {u u' : HO} {Hf : Hp} {a : Addr} (h0 : Hf a = some u) (hu : u = .dT kvs ∨ ∃ o, u = .frz o (.dT kvs)) (hu' : u' = .dT kvs ∨ ∃ o, u' = .frz o (.dT kvs)) : ∀ {ds : List D} {vs : List V}, RpA K mg Hf ds vs → RpA K mg (upd Hf a u') ds vs
  | _, _, .nil => .nil
  | _, _, .cons r t => .cons (Rp.sw h0 hu hu' _ _ r) (RpA.sw h0 hu hu' t)
theorem RpK.sw {kvs : List (List Key × V)} {u u' : HO} {Hf : Hp} {a : Addr} (h0 : Hf a = some u) (hu : u = .dT kvs ∨ ∃ o, u = .frz o (.dT kvs)) (hu' : u' = .dT kvs ∨ ∃ o, u' = .frz o (.dT kvs)) : ∀ {ds : List (List Int × D)} {vs : List (List Key × V)}, RpK K mg Hf ds vs → RpK K mg (upd Hf a u') ds vs
  | _, _, .nil => .nil
  | _, _, .cons r t => .cons (Rp.sw h0 hu hu' _ _ r) (RpK.sw h0 hu hu' t)
/-- the state when a dict that stays is locked, unlocked -/
theorem Sm.sw {Z : Addr} {C H Hf : Hp} {σ : Sl} {ρ : Rho} {kvs : List (List Key × V)} {u u' : HO} {a : Addr} (S : Sm K mg Z C H Hf σ ρ) (h0 : Hf a = some u) (hu : u = .dT kvs ∨ ∃ o, u = .frz o (.dT kvs)) (hu' : u' = .dT kvs ∨ ∃ o, u' = .frz o (.dT kvs)) : Sm K mg Z C (upd H a u') (upd Hf a u') σ ρ := by
  have nC : ∀ b o, C b = some o → b ≠ a := fun b o e z => by subst z; have := S.dj b o e; rw [h0] at this; cases this
  refine ⟨fun b o e => ?_, fun b o e => ?_, fun b o e => ?_, S.ln, fun i b e => ?_, S.ds, S.cm⟩
  · by_cases z : b = a
    · subst z; rw [upd_same] at e ⊢; exact e
    · rw [upd_ne z] at e ⊢; exact S.ff _ _ e
  · rw [upd_ne (nC b o e)]; exact S.cf _ _ e
  · rw [upd_ne (nC b o e)]; exact S.dj _ _ e
  · obtain ⟨v, e1, r⟩ := S.sl i b e
    refine ⟨v, e1, ?_⟩
    cases b with
    | fz d => exact Rp.sw h0 hu hu' d v r
    | ow t l =>
      obtain ⟨b, xs, rfl, h1, h2, h3, h4, h5⟩ := r
      have ne : b ≠ a := fun z => by subst z; rw [h0] at h2; cases h2
      exact ⟨b, xs, rfl, (upd_ne ne).trans h1, (upd_ne ne).trans h2, h3, RpA.sw h0 hu hu' h4, h5⟩
    | od l =>
      obtain ⟨b, xs, rfl, h1, h2, h3, h4⟩ := r
      have ne : b ≠ a := fun z => by subst z; rw [h0] at h2; cases h2
      exact ⟨b, xs, rfl, (upd_ne ne).trans h1, (upd_ne ne).trans h2, h3, RpK.sw h0 hu hu' h4⟩
theorem Sm.dict {Z : Addr} {C H Hf : Hp} {σ : Sl} {ρ : Rho} (S : Sm K mg Z C H Hf σ ρ) {i : Nat} {l : List (List Int × D)} (e : ρ[i]? = some (some (.fz (.dic l)))) : ∃ a kvs, σ[i]? = some (some (.ref a)) ∧ Rd Hf a (.dT kvs) ∧ RpK K mg Hf l kvs := by
  obtain ⟨v, e1, r⟩ := S.sl i _ e
  have r : Rp K mg Hf (.dic l) v := r
  cases r with
  | dic e2 rk => exact ⟨_, _, e1, e2, rk⟩
/-- a new list that a block made while the dict was locked -/
theorem w_lockO {i : Nat} {t : TE} {o : AD} (h : ∀ Z C H Hf σ ρ Q, Sm K mg Z C H Hf σ ρ → PkD K mg i H Hf σ ρ → Post K mg Z W C σ Hf (RO K mg C σ) Q (o ρ) → t σ H Q) : WO K mg W (tLkE t) (oLk i o) := ⟨fun Z C H Hf σ ρ Q S hp => by
  unfold oLk at hp
  split at hp
  · rename_i l e
    obtain ⟨a, kvs, e1, rd, rk⟩ := S.dict e
    have key : ∀ (q : Res (List D × Rho)), Post K mg Z W C σ Hf (RO K mg C σ) Q (noEr q) → (∃ y ρ', q = .ok (y, ρ')) := fun q hq => by
      cases q with
      | ok p => exact ⟨p.1, p.2, rfl⟩
      | er e r => exact hq.elim
      | bad => exact hq.elim
    obtain ⟨y, ρ', eo⟩ := key _ hp
    rw [eo] at hp
    rcases rd with rd | ⟨f, rd⟩
    · refine .inl ⟨a, .dT kvs, S.ff _ _ rd, trivial, fun od => ?_⟩
      have S1 := S.sw rd (.inl rfl) (u' := .frz od (.dT kvs)) (.inr ⟨od, rfl⟩)
      refine h Z C _ _ σ ρ _ S1 ⟨a, od, kvs, l, e, e1, upd_same, RpK.sw rd (.inl rfl) (.inr ⟨od, rfl⟩) rk⟩ ?_
      rw [eo]
      intro v H' Hf' s' S' r
      have fa : Hf' a = some (.frz od (.dT kvs)) := s' _ _ upd_same
      refine ⟨S'.ff _ _ fa, ?_⟩
      have S2 := S'.sw fa (.inr ⟨od, rfl⟩) (u' := .dT kvs) (.inl rfl)
      refine hp v _ _ (fun b u hb => ?_) S2 ?_
      · by_cases z : b = a
        · subst z; rw [upd_same]; rw [rd] at hb; exact hb
        · rw [upd_ne z]; exact s' _ _ (by rw [upd_ne z]; exact hb)
      · obtain ⟨p, xs, rfl, g1, g2, g3, g4, g5⟩ := r
        have ne : p ≠ a := fun z => by subst z; rw [fa] at g2; cases g2
        exact ⟨p, xs, rfl, (upd_ne ne).trans g1, (upd_ne ne).trans g2, g3, g4, RpA.sw fa (.inr ⟨od, rfl⟩) (.inl rfl) g5⟩
    · exact .inr (h Z C H Hf σ ρ Q S ⟨a, f, kvs, l, e, e1, rd, rk⟩ (by rw [eo]; exact hp))
  · exact hp.elim⟩
end
end DL

set_option Elab.async false
set_option linter.all false
set_option maxRecDepth 100000
set_option maxHeartbeats 2000000
/-! DU1: programs without slots (FR), and that denotations do what they say -/
namespace DL
open PySem PySem.Spec PyProof.Rows L2

def FR.bind {α β : Type} (m : FR α) (f : α → FR β) : FR β := match m with
  | .ok a => f a
  | .er e => .er e
  | .bad => .bad
/-- an error is nothing here -/
def FR.bindN {α β : Type} (m : FR α) (f : α → FR β) : FR β := match m with
  | .ok a => f a
  | _ => .bad
def FR.els {β : Type} (m : FR (Option β)) (r : FR β) : FR β := match m with
  | .ok (some b) => .ok b
  | .ok none => r
  | .er e => .er e
  | .bad => .bad
@[simp] theorem FR.bind_ok {α β : Type} (a : α) (f : α → FR β) : (FR.ok a).bind f = f a := Eq.trans rfl rfl
@[simp] theorem FR.bind_pure {α : Type} (m : FR α) : (m.bind fun z => .ok z) = m := by cases m <;> rfl
@[simp] theorem FR.bind_er {α β : Type} (e : Str) (f : α → FR β) : (FR.er e : FR α).bind f = .er e := Eq.trans rfl rfl
@[simp] theorem FR.bindN_ok {α β : Type} (a : α) (f : α → FR β) : (FR.ok a).bindN f = f a := Eq.trans rfl rfl
@[simp] theorem FR.els_some {β : Type} (b : β) (r : FR β) : (FR.ok (some b)).els r = .ok b := Eq.trans rfl rfl
@[simp] theorem FR.els_none {β : Type} (r : FR β) : (FR.ok none : FR (Option β)).els r = r := Eq.trans rfl rfl
def o2f {α : Type} : Option α → FR α
  | some a => .ok a
  | none => .bad
@[simp] theorem o2f_some {α : Type} (a : α) : o2f (some a) = .ok a := Eq.trans rfl rfl
def boolU {β : Type} (d : D) (k : Bool → FR β) : FR β := match d with
  | .bl b => k b
  | _ => .bad
def intU {β : Type} (d : D) (k : Int → FR β) : FR β := match d with
  | .int b => k b
  | _ => .bad
@[simp] theorem boolU_bl {β : Type} (b : Bool) (k : Bool → FR β) : boolU (.bl b) k = k b := Eq.trans rfl rfl
@[simp] theorem intU_int {β : Type} (b : Int) (k : Int → FR β) : intU (.int b) k = k b := Eq.trans rfl rfl
def un2 {β : Type} (d : D) (k : D → D → FR β) : FR β := match d with
  | .tup [a, b] => k a b
  | _ => .bad
def un3 {β : Type} (d : D) (k : D → D → D → FR β) : FR β := match d with
  | .tup [a, b, c] => k a b c
  | _ => .bad
def un4 {β : Type} (d : D) (k : D → D → D → D → FR β) : FR β := match d with
  | .tup [a, b, c, e] => k a b c e
  | _ => .bad
@[simp] theorem un2_tup {β : Type} (a b : D) (k : D → D → FR β) : un2 (.tup [a, b]) k = k a b := Eq.trans rfl rfl
@[simp] theorem un3_tup {β : Type} (a b c : D) (k : D → D → D → FR β) : un3 (.tup [a, b, c]) k = k a b c := Eq.trans rfl rfl
@[simp] theorem un4_tup {β : Type} (a b c e : D) (k : D → D → D → D → FR β) : un4 (.tup [a, b, c, e]) k = k a b c e := Eq.trans rfl rfl
/-- items of a list or a tuple -/
def seqU {β : Type} (d : D) (k : List D → FR β) : FR β := match d with
  | .lst l => k l
  | .tup l => k l
  | _ => .bad
@[simp] theorem seqU_lst {β : Type} (l : List D) (k : List D → FR β) : seqU (.lst l) k = k l := Eq.trans rfl rfl
@[simp] theorem seqU_tup {β : Type} (l : List D) (k : List D → FR β) : seqU (.tup l) k = k l := Eq.trans rfl rfl
def rg1 : List D → Option (List D)
  | [.int j] => if small j then some (rgD 0 j.toNat) else none
  | _ => none
def rg2 : List D → Option (List D)
  | [.int i, .int j] => if small i ∧ small j then some (rgD i (j - i).toNat) else none
  | _ => none
def rg3 : List D → Option (List D)
  | [.int i, .int j, .int c] => if small i ∧ small j ∧ c = -1 then some (dnD i (i - j).toNat) else none
  | _ => none
def enU : List D → Option (List D)
  | [.lst l] => some (enD l 0)
  | [.tup l] => some (enD l 0)
  | _ => none
def zpU : List D → Option (List D)
  | [.lst l, .lst m] => some (zpD l m)
  | [.tup l, .tup m] => some (zpD l m)
  | _ => none

/-- x or y, lists -/
def orU (xs : List D) (b : FR (List D)) : FR (List D) := match xs with
  | [] => b
  | _ => .ok xs
@[simp] theorem orU_nil (b : FR (List D)) : orU [] b = b := Eq.trans rfl rfl
theorem orU_ne {xs : List D} (h : xs ≠ []) (b : FR (List D)) : orU xs b = .ok xs := by cases xs with
  | nil => exact (h rfl).elim
  | cons => rfl
/-! comprehensions, loops -/
def mapU (f : D → FR D) : List D → FR (List D)
  | [] => .ok []
  | x :: xs => (f x).bindN fun v => (mapU f xs).bindN fun vs => .ok (v :: vs)
def filU (f : D → FR (Option D)) : List D → FR (List D)
  | [] => .ok []
  | x :: xs => (f x).bindN fun o => (filU f xs).bindN fun vs => .ok (match o with
    | some v => v :: vs
    | none => vs)
def lcU (f : D → FR D) (l : List D) : FR (List D) := if l.length ≤ 1000000 then mapU f l else .bad
def lcF (f : D → FR (Option D)) (l : List D) : FR (List D) := if l.length ≤ 1000000 then filU f l else .bad
def mapT (f : D → List D → FR (D × List D)) : List D → List D → FR (List D × List D)
  | [], t => .ok ([], t)
  | x :: xs, t => (f x t).bindN fun v => (mapT f xs v.2).bindN fun vs => .ok (v.1 :: vs.1, vs.2)
def filT (f : D → List D → FR (Option D × List D)) : List D → List D → FR (List D × List D)
  | [], t => .ok ([], t)
  | x :: xs, t => (f x t).bindN fun v => (filT f xs v.2).bindN fun vs => .ok (match v.1 with
    | some d => d :: vs.1
    | none => vs.1, vs.2)
def lcT (f : D → List D → FR (D × List D)) (l t : List D) : FR (List D × List D) := if l.length ≤ 1000000 then mapT f l t else .bad
def lcFT (f : D → List D → FR (Option D × List D)) (l t : List D) : FR (List D × List D) := if l.length ≤ 1000000 then filT f l t else .bad
def foldU {σ : Type} (f : D → σ → FR σ) : List D → σ → FR σ
  | [], s => .ok s
  | x :: xs, s => (f x s).bind fun s' => foldU f xs s'
def findU {β : Type} (f : D → FR (Option β)) : List D → FR (Option β)
  | [] => .ok none
  | x :: xs => (f x).bind fun o => match o with
    | some b => .ok (some b)
    | none => findU f xs
inductive Lo (σ β : Type) where
  | nx (s : σ) | bk (s : σ) | ret (b : β)
def forU {σ β : Type} (f : D → σ → FR (Lo σ β)) : List D → σ → FR (σ ⊕ β)
  | [], s => .ok (.inl s)
  | x :: xs, s => (f x s).bind fun o => match o with
    | .nx s' => forU f xs s'
    | .bk s' => .ok (.inl s')
    | .ret b => .ok (.inr b)
def whileU {σ β : Type} (f : σ → FR (Lo σ β)) : Nat → σ → FR (σ ⊕ β)
  | 0, _ => .bad
  | n + 1, s => (f s).bind fun o => match o with
    | .nx s' => whileU f n s'
    | .bk s' => .ok (.inl s')
    | .ret b => .ok (.inr b)
/-- what stands behind a loop -/
def aftU {σ β : Type} (m : FR (σ ⊕ β)) (r : σ → FR β) : FR β := m.bind fun o => match o with
  | .inl s => r s
  | .inr b => .ok b
@[simp] theorem aftU_inl {σ β : Type} (s : σ) (r : σ → FR β) : aftU (.ok (.inl s)) r = r s := Eq.trans rfl rfl
@[simp] theorem aftU_inr {σ β : Type} (b : β) (r : σ → FR β) : aftU (.ok (.inr b)) r = .ok b := Eq.trans rfl rfl
def tryU (m : FR D) (x : Str) : FR (Option D) := match m with
  | .ok r => .ok (some r)
  | .er e => if e = x then .ok none else .bad
  | .bad => .bad
@[simp] theorem tryU_ok (r : D) (x : Str) : tryU (.ok r) x = .ok (some r) := Eq.trans rfl rfl
@[simp] theorem tryU_er (x : Str) : tryU (.er x) x = .ok none := by unfold tryU; simp
/-! lists and dicts that a slot holds -/
def appU (l : List D) (d : D) : FR (List D) := if l.length < 1000000 then .ok (l ++ [d]) else .bad
def extU (l : List D) (d : D) : FR (List D) := match d with
  | .lst m => if l.length + m.length ≤ 1000000 then .ok (l ++ m) else .bad
  | _ => .bad
def putU (l : List D) (k d : D) : FR (List D) := match k with
  | .int n => (match ixN l.length n with
    | some j => .ok (l.set j d)
    | none => .bad)
  | _ => .bad
theorem putU_ok {l : List D} {i : Int} {d : D} (h0 : 0 ≤ i) (h1 : i < l.length) : putU l (.int i) d = .ok (l.set i.toNat d) := by
  show (match ixN l.length i with
    | some j => FR.ok (l.set j d)
    | none => .bad) = _
  unfold ixN; rw [if_pos h0, if_pos (by omega)]
def putDU (l : List (List Int × D)) (k d : D) : FR (List (List Int × D)) := match keyD k with
  | some kk => if l.length < 1000000 then .ok (putK' l kk d) else .bad
  | none => .bad
def popU {β : Type} (l : List D) (k : D → List D → FR β) : FR β := match l[l.length - 1]? with
  | some d => k d l.dropLast
  | none => .bad
def getU {β : Type} (l : List (List Int × D)) (k x : D) (c : D → FR β) : FR β := match keyD k with
  | some kk => c ((getK l kk).getD x)
  | none => .bad

/-! ### patterns of slots -/
inductive PC where
  | any | no | is (b : Option B) | rd (l : List D)
abbrev PC.fz (d : D) : PC := .is (some (.fz d))
abbrev PC.ow (t : Nat) (l : List D) : PC := .is (some (.ow t l))
abbrev PC.od (l : List (List Int × D)) : PC := .is (some (.od l))
abbrev PC.un : PC := .is none
abbrev Pat := List PC
def PC.ok : PC → Option B → Prop
  | .any, _ => True
  | .no, b => (match b with
    | some b => isOw b
    | none => false) = false
  | .is b, c => c = b
  | .rd l, c => c = some (.fz (.lst l)) ∨ ∃ t, c = some (.ow t l)
inductive Mt : Pat → Rho → Prop where
  | nil : Mt [] []
  | cons {c : PC} {b : Option B} {p : Pat} {ρ : Rho} : c.ok b → Mt p ρ → Mt (c :: p) (b :: ρ)
theorem Mt.get : ∀ {p : Pat} {ρ : Rho} {i : Nat} {c : PC}, Mt p ρ → p[i]? = some c → ∃ b, ρ[i]? = some b ∧ c.ok b
  | _, _, _, _, .nil, e => by simp at e
  | _, _, 0, _, .cons h _, e => by simp at e; subst e; exact ⟨_, rfl, h⟩
  | _, _, i + 1, c, .cons _ m, e => by
    obtain ⟨b, h1, h2⟩ := Mt.get (i := i) (c := c) m (by simpa using e)
    exact ⟨b, by simpa using h1, h2⟩
theorem Mt.set : ∀ {p : Pat} {ρ : Rho} (i : Nat) {c : PC} {b : Option B}, Mt p ρ → c.ok b → Mt (p.set i c) (ρ.set i b)
  | _, _, _, _, _, .nil, _ => .nil
  | _, _, 0, _, _, .cons _ m, h => .cons h m
  | _, _, i + 1, _, _, .cons h' m, h => .cons h' (Mt.set i m h)
theorem Mt.len : ∀ {p : Pat} {ρ : Rho}, Mt p ρ → p.length = ρ.length
  | _, _, .nil => rfl
  | _, _, .cons _ m => by simp [Mt.len m]
theorem Mt.self : ∀ ρ : Rho, Mt (ρ.map PC.is) ρ
  | [] => .nil
  | _ :: ρ => .cons rfl (Mt.self ρ)
/-- one pattern says less than another -/
inductive WK : Pat → Pat → Prop where
  | nil : WK [] []
  | cons {c d : PC} {p q : Pat} : (∀ b, c.ok b → d.ok b) → WK p q → WK (c :: p) (d :: q)
theorem WK.mt : ∀ {p q : Pat} {ρ : Rho}, WK p q → Mt p ρ → Mt q ρ
  | _, _, _, .nil, .nil => .nil
  | _, _, _, .cons h w, .cons a m => .cons (h _ a) (w.mt m)
theorem WK.refl : ∀ p : Pat, WK p p
  | [] => .nil
  | _ :: p => .cons (fun _ h => h) (WK.refl p)
theorem wS {c : PC} {p q : Pat} (w : WK p q) : WK (c :: p) (c :: q) := .cons (fun _ h => h) w
theorem wA {c : PC} {p q : Pat} (w : WK p q) : WK (c :: p) (.any :: q) := .cons (fun _ _ => trivial) w
theorem wU {p q : Pat} (w : WK p q) : WK (.un :: p) (.no :: q) := .cons (fun b h => by cases (h : b = none); rfl) w
theorem wF {d : D} {p q : Pat} (w : WK p q) : WK (.fz d :: p) (.no :: q) := .cons (fun b h => by cases (h : b = some (.fz d)); rfl) w
theorem wO {t : Nat} {l : List D} {p q : Pat} (w : WK p q) : WK (.ow t l :: p) (.rd l :: q) := .cons (fun b h => by cases (h : b = some (.ow t l)); exact .inr ⟨t, rfl⟩) w
theorem wL {l : List D} {p q : Pat} (w : WK p q) : WK (.fz (.lst l) :: p) (.rd l :: q) := .cons (fun b h => by cases (h : b = some (.fz (.lst l))); exact .inl rfl) w

/-! ### what is said of outcomes -/
def Ref {γ α : Type} (ok : γ → α → Prop) (r : Res γ) : FR α → Prop
  | .ok a => ∃ g, r = .ok g ∧ ok g a
  | .er x => ∃ ρ, r = .er x ρ
  | .bad => True
theorem Ref.bind {γ α δ β : Type} {ok : γ → α → Prop} {ok' : δ → β → Prop} {r : Res γ} {u : FR α} {kd : γ → Res δ} {ku : α → FR β} (h : Ref ok r u) (k : ∀ g a, ok g a → Ref ok' (kd g) (ku a)) : Ref ok' (r.bind kd) (u.bind ku) := by
  cases u with
  | ok a => obtain ⟨g, rfl, hg⟩ := h; exact k g a hg
  | er x => obtain ⟨ρ, rfl⟩ := h; exact ⟨ρ, rfl⟩
  | bad => trivial
theorem Ref.lift {α δ β : Type} {ok' : δ → β → Prop} {o : Option α} {ρ : Rho} {kd : α × Rho → Res δ} {ku : α → FR β} (k : ∀ z, Ref ok' (kd (z, ρ)) (ku z)) : Ref ok' ((lift o ρ).bind kd) ((o2f o).bind ku) := by
  cases o with
  | some z => exact k z
  | none => trivial
/-- an expression: what it yields is handed on -/
structure BC {γ : Type} (p q : Pat) (e : Rho → Res (γ × Rho)) (U : (β : Type) → (γ → FR β) → FR β) : Prop where
  run : ∀ {β δ : Type} (ok : δ → β → Prop) (kd : γ × Rho → Res δ) (ku : γ → FR β), (∀ x ρ', Mt q ρ' → Ref ok (kd (x, ρ')) (ku x)) → ∀ ρ, Mt p ρ → Ref ok ((e ρ).bind kd) (U β ku)
theorem bind_assoc {α β γ : Type} (m : Res α) (f : α → Res β) (g : β → Res γ) : (m.bind f).bind g = m.bind fun x => (f x).bind g := by cases m <;> rfl
theorem bind_ok' {α : Type} (m : Res α) : m.bind (fun x => .ok x) = m := by cases m <;> rfl
/-- alone -/
theorem BC.one {γ : Type} {p q : Pat} {e : Rho → Res (γ × Rho)} {U : (β : Type) → (γ → FR β) → FR β} (h : BC p q e U) (ρ : Rho) (m : Mt p ρ) : Ref (fun g a => g.1 = a ∧ Mt q g.2) (e ρ) (U γ .ok) := by
  have := h.run (fun (g : γ × Rho) a => g.1 = a ∧ Mt q g.2) (fun g => .ok g) .ok (fun x ρ' m' => ⟨(x, ρ'), rfl, rfl, m'⟩) ρ m
  rwa [bind_ok'] at this
theorem BC.weak {γ : Type} {p p' q : Pat} {e : Rho → Res (γ × Rho)} {U : (β : Type) → (γ → FR β) → FR β} (h : BC p' q e U) (w : WK p p') : BC p q e U := ⟨fun ok kd ku hk ρ m => h.run ok kd ku hk ρ (w.mt m)⟩
section
variable {p q r q' q1 q2 : Pat} {a b c : ED} {s : AD} {tt tu : TD} {x y d : D}
variable {Ua Ub Uc : (β : Type) → (D → FR β) → FR β} {Us Us' : (β : Type) → (List D → FR β) → FR β} {Ut Uu : (β : Type) → (Bool → FR β) → FR β}
theorem be_var {i : Nat} (h : p[i]? = some (.fz d)) : BC p p (dVar i) (fun _ k => k d) := ⟨fun ok kd ku hk ρ m => by
  obtain ⟨v, e, hv⟩ := m.get h
  have hv : v = some (.fz d) := hv
  unfold dVar; rw [e, hv]; exact hk d ρ m⟩
theorem be_varR {i : Nat} {l : List D} (h : p[i]? = some (.rd l)) : BC p p (dVar i) (fun _ k => k (.lst l)) := ⟨fun ok kd ku hk ρ m => by
  obtain ⟨v, e, hv⟩ := m.get h
  unfold dVar
  rcases hv with hv | ⟨t, hv⟩
  · rw [e, hv]; exact hk _ ρ m
  · rw [e, hv]
    refine hk _ _ ?_
    have := m.set i (c := .rd l) (b := some (.fz (.lst l))) (.inl rfl)
    have e2 : p.set i (.rd l) = p := by
      apply List.ext_getElem?; intro j
      by_cases hj : i = j
      · subst hj; rw [List.getElem?_set_self (List.getElem?_eq_some_iff.mp h).1, h]
      · rw [List.getElem?_set_ne hj]
    rwa [e2] at this⟩
theorem be_varO {i t : Nat} {l : List D} (h : p[i]? = some (.ow t l)) (hq : p.set i (.fz (.lst l)) = q) : BC p q (dVar i) (fun _ k => k (.lst l)) := ⟨fun ok kd ku hk ρ m => by
  obtain ⟨v, e, hv⟩ := m.get h
  have hv : v = some (.ow t l) := hv
  unfold dVar; rw [e, hv]
  exact hk _ _ (hq ▸ m.set i rfl)⟩
theorem be_varD {i : Nat} {l : List (List Int × D)} (h : p[i]? = some (.od l)) (hq : p.set i (.fz (.dic l)) = q) : BC p q (dVar i) (fun _ k => k (.dic l)) := ⟨fun ok kd ku hk ρ m => by
  obtain ⟨v, e, hv⟩ := m.get h
  have hv : v = some (.od l) := hv
  unfold dVar; rw [e, hv]
  exact hk _ _ (hq ▸ m.set i rfl)⟩
theorem be_c : BC p p (dC d) (fun _ k => k d) := ⟨fun ok kd ku hk ρ m => hk d ρ m⟩
theorem be_op {f : D → D → Option D} (ha : BC p q a Ua) (hb : BC q r b Ub) : BC p r (dOp f a b) (fun β k => Ua β fun x => Ub β fun y => (o2f (f x y)).bind k) := ⟨fun ok kd ku hk ρ m => by
  unfold dOp; rw [bind_assoc]
  refine ha.run ok _ _ (fun x ρ1 m1 => ?_) ρ m
  rw [bind_assoc]
  exact hb.run ok _ _ (fun y ρ2 m2 => Ref.lift fun z => hk z ρ2 m2) ρ1 m1⟩
theorem be_oop {f : D → D → Option (List D)} (ha : BC p q a Ua) (hb : BC q r b Ub) : BC p r (oOp f a b) (fun β k => Ua β fun x => Ub β fun y => (o2f (f x y)).bind k) := ⟨fun ok kd ku hk ρ m => by
  unfold oOp; rw [bind_assoc]
  refine ha.run ok _ _ (fun x ρ1 m1 => ?_) ρ m
  rw [bind_assoc]
  exact hb.run ok _ _ (fun y ρ2 m2 => Ref.lift fun z => hk z ρ2 m2) ρ1 m1⟩
theorem be_un {f : D → Option D} (ha : BC p q a Ua) : BC p q (dUn f a) (fun β k => Ua β fun x => (o2f (f x)).bind k) := ⟨fun ok kd ku hk ρ m => by
  unfold dUn; rw [bind_assoc]
  exact ha.run ok _ _ (fun x ρ1 m1 => Ref.lift fun z => hk z ρ1 m1) ρ m⟩
theorem be_oun {f : D → Option (List D)} (ha : BC p q a Ua) : BC p q (oUn f a) (fun β k => Ua β fun x => (o2f (f x)).bind k) := ⟨fun ok kd ku hk ρ m => by
  unfold oUn; rw [bind_assoc]
  exact ha.run ok _ _ (fun x ρ1 m1 => Ref.lift fun z => hk z ρ1 m1) ρ m⟩
/-- arguments -/
structure BA (p q : Pat) (s : AD) (n : Nat) (U : (β : Type) → (List D → FR β) → FR β) : Prop where
  run : ∀ {β δ : Type} (ok : δ → β → Prop) (kd : List D × Rho → Res δ) (ku : List D → FR β), (∀ x ρ', x.length = n → Mt q ρ' → Ref ok (kd (x, ρ')) (ku x)) → ∀ ρ, Mt p ρ → Ref ok ((s ρ).bind kd) (U β ku)
theorem ba_nil : BA p p aNil 0 (fun _ k => k []) := ⟨fun ok kd ku hk ρ m => hk [] ρ rfl m⟩
theorem ba_cons {n : Nat} (ha : BC p q a Ua) (hs : BA q r s n Us) : BA p r (aCons a s) (n + 1) (fun β k => Ua β fun x => Us β fun xs => k (x :: xs)) := ⟨fun ok kd ku hk ρ m => by
  unfold aCons; rw [bind_assoc]
  refine ha.run ok _ _ (fun x ρ1 m1 => ?_) ρ m
  rw [bind_assoc]
  exact hs.run ok _ _ (fun xs ρ2 hl m2 => hk (x :: xs) ρ2 (by rw [List.length_cons, hl]) m2) ρ1 m1⟩
theorem be_cb {n : Nat} {f : List D → Option D} (ha : BA p q s n Us) : BC p q (dCb f s) (fun β k => Us β fun xs => (o2f (f xs)).bind k) := ⟨fun ok kd ku hk ρ m => by
  unfold dCb; rw [bind_assoc]
  exact ha.run ok _ _ (fun x ρ1 _ m1 => Ref.lift fun z => hk z ρ1 m1) ρ m⟩
theorem be_ocb {n : Nat} {f : List D → Option (List D)} (ha : BA p q s n Us) : BC p q (oCb f s) (fun β k => Us β fun xs => (o2f (f xs)).bind k) := ⟨fun ok kd ku hk ρ m => by
  unfold oCb; rw [bind_assoc]
  exact ha.run ok _ _ (fun x ρ1 _ m1 => Ref.lift fun z => hk z ρ1 m1) ρ m⟩
theorem be_tup {n : Nat} (ha : BA p q s n Us) (hn : n ≤ 1000000) : BC p q (dTup s) (fun β k => Us β fun xs => k (.tup xs)) := ⟨fun ok kd ku hk ρ m => by
  unfold dTup; rw [bind_assoc]
  refine ha.run ok _ _ (fun x ρ1 hl m1 => ?_) ρ m
  dsimp only
  rw [if_pos (hl ▸ hn)]
  exact hk _ ρ1 m1⟩
theorem be_lst {n : Nat} (ha : BA p q s n Us) (hn : n ≤ 1000000) : BC p q (oLst s) (fun β k => Us β fun xs => k xs) := ⟨fun ok kd ku hk ρ m => by
  unfold oLst; rw [bind_assoc]
  refine ha.run ok _ _ (fun x ρ1 hl m1 => ?_) ρ m
  dsimp only
  rw [if_pos (hl ▸ hn)]
  exact hk _ ρ1 m1⟩
theorem be_fz (ha : BC p q s Us) : BC p q (dFz s) (fun β k => Us β fun xs => k (.lst xs)) := ⟨fun ok kd ku hk ρ m => by
  unfold dFz; rw [bind_assoc]
  exact ha.run ok _ _ (fun x ρ1 m1 => hk _ ρ1 m1) ρ m⟩
theorem Ref.seq {γ δ β : Type} {p : Pat} {r : Res (γ × Rho)} {u : FR γ} {ok : δ → β → Prop} {kd : γ × Rho → Res δ} {ku : γ → FR β} (h : Ref (fun g a => g.1 = a ∧ Mt p g.2) r u) (hk : ∀ x ρ', Mt p ρ' → Ref ok (kd (x, ρ')) (ku x)) : Ref ok (r.bind kd) (u.bind ku) :=
  Ref.bind h fun g a hg => by obtain ⟨x, ρ'⟩ := g; obtain ⟨h1, h2⟩ := hg; cases h1; exact hk _ _ h2
theorem be_oor {s' : AD} (ha : BC p q s Us) (hb : BC q q s' Us') : BC p q (oOr s s') (fun β k => Us β fun xs => FR.bind (orU xs (Us' (List D) .ok)) k) := ⟨fun ok kd ku hk ρ m => by
  unfold oOr; rw [bind_assoc]
  refine ha.run ok _ _ (fun x ρ1 m1 => ?_) ρ m
  cases x with
  | nil => exact Ref.seq (hb.one ρ1 m1) hk
  | cons x xs => exact hk _ _ m1⟩
theorem be_bl (ha : BC p q a Ua) : BC p q (tBl a) (fun β k => Ua β fun x => boolU x k) := ⟨fun ok kd ku hk ρ m => by
  unfold tBl; rw [bind_assoc]
  refine ha.run ok _ _ (fun x ρ1 m1 => ?_) ρ m
  cases x with
  | bl b => exact hk b ρ1 m1
  | _ => trivial⟩
theorem be_no (ha : BC p q tt Ut) : BC p q (tNo tt) (fun β k => Ut β fun x => k (!x)) := ⟨fun ok kd ku hk ρ m => by
  unfold tNo; rw [bind_assoc]
  exact ha.run ok _ _ (fun x ρ1 m1 => hk (!x) ρ1 m1) ρ m⟩
theorem be_an (ha : BC p q tt Ut) (hb : BC q q tu Uu) : BC p q (tAn tt tu) (fun β k => Ut β fun x => FR.bind (bif x then Uu Bool .ok else .ok false) k) := ⟨fun ok kd ku hk ρ m => by
  unfold tAn; rw [bind_assoc]
  refine ha.run ok _ _ (fun x ρ1 m1 => ?_) ρ m
  cases x with
  | true => exact Ref.seq (hb.one ρ1 m1) hk
  | false => exact hk _ _ m1⟩
theorem be_or (ha : BC p q tt Ut) (hb : BC q q tu Uu) : BC p q (tOR tt tu) (fun β k => Ut β fun x => FR.bind (bif x then .ok true else Uu Bool .ok) k) := ⟨fun ok kd ku hk ρ m => by
  unfold tOR; rw [bind_assoc]
  refine ha.run ok _ _ (fun x ρ1 m1 => ?_) ρ m
  cases x with
  | true => exact hk _ _ m1
  | false => exact Ref.seq (hb.one ρ1 m1) hk⟩
theorem be_and (ha : BC p q a Ua) (hb : BC q q b Ub) : BC p q (dAnd a b) (fun β k => Ua β fun x => boolU x fun x => FR.bind (bif x then Ub D .ok else .ok (.bl false)) k) := ⟨fun ok kd ku hk ρ m => by
  unfold dAnd; rw [bind_assoc]
  refine ha.run ok _ _ (fun x ρ1 m1 => ?_) ρ m
  cases x with
  | bl k => cases k with
    | true => exact Ref.seq (hb.one ρ1 m1) hk
    | false => exact hk _ _ m1
  | _ => trivial⟩
theorem be_orv (ha : BC p q a Ua) (hb : BC q q b Ub) : BC p q (dOr a b) (fun β k => Ua β fun x => boolU x fun x => FR.bind (bif x then .ok (.bl true) else Ub D .ok) k) := ⟨fun ok kd ku hk ρ m => by
  unfold dOr; rw [bind_assoc]
  refine ha.run ok _ _ (fun x ρ1 m1 => ?_) ρ m
  cases x with
  | bl k => cases k with
    | true => exact hk _ _ m1
    | false => exact Ref.seq (hb.one ρ1 m1) hk
  | _ => trivial⟩
theorem be_if (hc : BC p q tt Ut) (ha : BC q r a Ua) (hb : BC q r b Ub) : BC p r (dIf tt a b) (fun β k => Ut β fun x => FR.bind (bif x then Ua D .ok else Ub D .ok) k) := ⟨fun ok kd ku hk ρ m => by
  unfold dIf; rw [bind_assoc]
  refine hc.run ok _ _ (fun x ρ1 m1 => ?_) ρ m
  cases x with
  | true => exact Ref.seq (ha.one ρ1 m1) hk
  | false => exact Ref.seq (hb.one ρ1 m1) hk⟩
theorem be_chain {f g : D → D → Option D} (ha : BC p q a Ua) (hb : BC q r b Ub) (hc : BC r r c Uc) : BC p r (dChain f g a b c) (fun β k => Ua β fun x => Ub β fun y => (o2f (f x y)).bind fun v => boolU v fun v => FR.bind (bif v then Uc D fun z => o2f (g y z) else .ok (.bl false)) k) := ⟨fun ok kd ku hk ρ m => by
  unfold dChain; rw [bind_assoc]
  refine ha.run ok _ _ (fun x ρ1 m1 => ?_) ρ m
  rw [bind_assoc]
  refine hb.run ok _ _ (fun y ρ2 m2 => ?_) ρ1 m1
  dsimp only
  cases hf : f x y with
  | none => trivial
  | some v =>
    cases v with
    | bl k =>
      cases k with
      | true =>
        have key : Ref (fun (g : D × Rho) a => g.1 = a ∧ Mt r g.2) ((c ρ2).bind fun r => lift (g y r.1) r.2) (Uc D fun z => o2f (g y z)) := hc.run _ _ _ (fun z ρ3 m3 => by
          cases hg : g y z with
          | none => trivial
          | some w => exact ⟨(w, ρ3), rfl, rfl, m3⟩) ρ2 m2
        exact (Ref.seq (ok := ok) (kd := kd) (ku := ku) key hk)
      | false => exact hk _ _ m2
    | _ => trivial⟩
/-! slices -/
variable {lo hi : OD} {Ul Uh : (β : Type) → (Option Int → FR β) → FR β}
theorem be_pNo : BC p p pNo (fun _ k => k none) := ⟨fun ok kd ku hk ρ m => hk none ρ m⟩
theorem be_pSome (ha : BC p q a Ua) : BC p q (pSome a) (fun β k => Ua β fun x => intU x fun n => k (some n)) := ⟨fun ok kd ku hk ρ m => by
  unfold pSome; rw [bind_assoc]
  refine ha.run ok _ _ (fun x ρ1 m1 => ?_) ρ m
  cases x with
  | int b => exact hk _ ρ1 m1
  | _ => trivial⟩
theorem be_sl (ha : BC p q a Ua) (hl : BC q r lo Ul) (hh : BC r q' hi Uh) : BC p q' (dSl a lo hi) (fun β k => Ua β fun x => Ul β fun i => Uh β fun j => (o2f (slD i j x)).bind k) := ⟨fun ok kd ku hk ρ m => by
  unfold dSl; rw [bind_assoc]
  refine ha.run ok _ _ (fun x ρ1 m1 => ?_) ρ m
  rw [bind_assoc]
  refine hl.run ok _ _ (fun i ρ2 m2 => ?_) ρ1 m1
  rw [bind_assoc]
  exact hh.run ok _ _ (fun j ρ3 m3 => Ref.lift fun z => hk z ρ3 m3) ρ2 m2⟩
/-! lists in slots -/
theorem Mt.owAt {i t : Nat} {l : List D} {ρ : Rho} (m : Mt p ρ) (h : p[i]? = some (.ow t l)) : owAt ρ i = some (t, l) := by
  obtain ⟨v, e, hv⟩ := m.get h
  have hv : v = some (.ow t l) := hv
  unfold DL.owAt; rw [e, hv]
theorem Mt.odAt {i : Nat} {l : List (List Int × D)} {ρ : Rho} (m : Mt p ρ) (h : p[i]? = some (.od l)) : odAt ρ i = some l := by
  obtain ⟨v, e, hv⟩ := m.get h
  have hv : v = some (.od l) := hv
  unfold DL.odAt; rw [e, hv]
theorem be_ixO {i t t' : Nat} {l l' : List D} (h : p[i]? = some (.ow t l)) (ha : BC p q a Ua) (h' : q[i]? = some (.ow t' l')) : BC p q (dIxV i a) (fun β k => Ua β fun x => (o2f (idxD (.lst l') x)).bind k) := ⟨fun ok kd ku hk ρ m => by
  unfold dIxV; rw [m.owAt h]; dsimp only; rw [bind_assoc]
  refine ha.run ok _ _ (fun x ρ1 m1 => ?_) ρ m
  dsimp only
  rw [m1.owAt h']
  cases x with
  | int n => exact Ref.lift fun z => hk z ρ1 m1
  | _ => trivial⟩
theorem be_ixF {i : Nat} (h : p[i]? = some (.fz d)) (ha : BC p q a Ua) : BC p q (dIxV i a) (fun β k => Ua β fun x => (o2f (idxD d x)).bind k) := ⟨fun ok kd ku hk ρ m => by
  obtain ⟨v, e, hv⟩ := m.get h
  have hv : v = some (.fz d) := hv
  have e2 : DL.owAt ρ i = none := by unfold DL.owAt; rw [e, hv]
  unfold dIxV; rw [e2]; dsimp only
  exact (be_op (be_var h) ha).run ok kd ku hk ρ m⟩
end
end DL

set_option Elab.async false
set_option linter.all false
set_option maxRecDepth 100000
set_option maxHeartbeats 2000000
/-! DU2: calls, iterables, comprehensions, draws -/
namespace DL
open PySem PySem.Spec PyProof.Rows L2
def RefF (r : FR FO) : FR D → Prop
  | .ok d => r = .ok (.val d) ∨ ∃ l, d = .lst l ∧ r = .ok (.own l)
  | .er x => r = .er x
  | .bad => True
def RefO (r : FR FO) : FR (List D) → Prop
  | .ok l => r = .ok (.own l)
  | .er x => r = .er x
  | .bad => True
def RefT (r : FR (D × List D)) : FR (D × List D) → Prop
  | .ok x => r = .ok x
  | _ => True
theorem Mt.of : ∀ {p : Pat} {ρ : Rho}, p.length = ρ.length → (∀ (i : Nat) (c : PC) (b : Option B), p[i]? = some c → ρ[i]? = some b → c.ok b) → Mt p ρ
  | [], [], _, _ => .nil
  | [], _ :: _, h, _ => by simp at h
  | _ :: _, [], h, _ => by simp at h
  | c :: p, b :: ρ, h, k => .cons (k 0 c b rfl rfl) (Mt.of (by simpa using h) fun i c b h1 h2 => k (i + 1) c b (by simpa using h1) (by simpa using h2))
theorem Mt.at {p : Pat} {ρ : Rho} (m : Mt p ρ) {i : Nat} {c : PC} {b : Option B} (h : p[i]? = some c) (h' : ρ[i]? = some b) : c.ok b := by
  obtain ⟨b', e, k⟩ := m.get h
  rw [e] at h'; cases h'; exact k
def wipeP (p : Pat) : List Nat → Pat
  | [] => p
  | v :: vs => (wipeP p vs).set v .un
def noOwC : Option PC → Bool
  | some .no => true
  | some (.is none) => true
  | some (.is (some (.fz _))) => true
  | _ => false
def noOwP (p : Pat) : List Nat → Bool
  | [] => true
  | v :: vs => noOwC p[v]? && noOwP p vs
theorem anyOw_of {p : Pat} {ρ : Rho} (m : Mt p ρ) : ∀ {vs : List Nat}, noOwP p vs = true → anyOw ρ vs = false
  | [], _ => rfl
  | v :: vs, h => by
    unfold noOwP at h
    rw [Bool.and_eq_true] at h
    have ih := anyOw_of m h.2
    have h1 := h.1
    unfold anyOw at *
    rw [List.any_cons, ih, Bool.or_false]
    cases q : p[v]? with
    | none => rw [q] at h1; cases h1
    | some c =>
      obtain ⟨b, e, hb⟩ := m.get q
      rw [q] at h1
      rw [e]
      cases c with
      | any => cases h1
      | no => cases b with
        | none => rfl
        | some b => exact hb
      | is b' =>
        have hb : b = b' := hb
        subst hb
        cases b with
        | none => rfl
        | some b => cases b with
          | fz d => rfl
          | ow t l => cases h1
          | od l => cases h1
      | rd l => cases h1
theorem Mt.wipe {p : Pat} {ρ : Rho} (m : Mt p ρ) : ∀ vs : List Nat, Mt (wipeP p vs) (wipeR ρ vs)
  | [] => m
  | v :: vs => (Mt.wipe m vs).set v rfl
theorem wipeP_len (p : Pat) : ∀ vs : List Nat, (wipeP p vs).length = p.length
  | [] => rfl
  | v :: vs => by unfold wipeP; rw [List.length_set, wipeP_len p vs]
theorem putBack_len (ρ ρn : Rho) : ∀ vs : List Nat, (putBack ρ ρn vs).length = ρn.length
  | [] => rfl
  | v :: vs => by unfold putBack; rw [List.length_set, putBack_len ρ ρn vs]
theorem Mt.back {p : Pat} {ρ ρn : Rho} (m : Mt p ρ) {vs : List Nat} (mn : Mt (wipeP p vs) ρn) : Mt p (putBack ρ ρn vs) := by
  have hl : ρn.length = p.length := by rw [← mn.len, wipeP_len]
  refine Mt.of (by rw [putBack_len, hl]) fun i c b h1 h2 => ?_
  have key : ∀ us : List Nat, (∀ j, j ∈ us → j ∈ vs) → (i ∈ us → (putBack ρ ρn us)[i]? = some b → c.ok b) ∧ (i ∉ us → (putBack ρ ρn us)[i]? = ρn[i]?) := by
    intro us hus
    induction us with
    | nil => exact ⟨fun h => (by cases h), fun _ => rfl⟩
    | cons v us ih =>
      obtain ⟨ih1, ih2⟩ := ih fun j hj => hus j (List.mem_cons_of_mem _ hj)
      have il : i < p.length := (List.getElem?_eq_some_iff.mp h1).1
      constructor
      · intro hi h
        unfold putBack at h
        by_cases hv : v = i
        · subst hv
          rw [List.getElem?_set_self (by rw [putBack_len, hl]; exact il)] at h
          have e : ρ[v]?.getD none = b := by cases h; rfl
          obtain ⟨b', e', k⟩ := m.get h1
          rw [e'] at e
          have : b' = b := e
          exact this ▸ k
        · rw [List.getElem?_set_ne hv] at h
          rcases List.mem_cons.mp hi with hi | hi
          · exact (hv hi.symm).elim
          · exact ih1 hi h
      · intro hi
        unfold putBack
        have hv : v ≠ i := fun z => hi (z ▸ List.mem_cons_self)
        rw [List.getElem?_set_ne hv]
        exact ih2 fun z => hi (List.mem_cons_of_mem _ z)
  obtain ⟨k1, k2⟩ := key vs fun _ h => h
  by_cases hi : i ∈ vs
  · exact k1 hi h2
  · rw [k2 hi] at h2
    have e : ∀ us : List Nat, i ∉ us → (wipeP p us)[i]? = p[i]? := by
      intro us
      induction us with
      | nil => intro _; rfl
      | cons v us ih =>
        intro h
        unfold wipeP
        rw [List.getElem?_set_ne (fun z : v = i => h (z ▸ List.mem_cons_self))]
        exact ih fun z => h (List.mem_cons_of_mem _ z)
    exact mn.at ((e vs hi).trans h1) h2

section
variable {p q r R q' q1 q2 : Pat} {a b c e : ED} {s : AD} {tt tu : TD} {x y d : D} {n i j l : Nat} {it : ID} {g : GD} {vs : List Nat}
variable {Ua Ub Uc Ue : (β : Type) → (D → FR β) → FR β} {Us Us' Ui : (β : Type) → (List D → FR β) → FR β} {Ut Uu : (β : Type) → (Bool → FR β) → FR β}
theorem be_call {F : FF} {UF : List D → FR D} (hF : ∀ xs, RefF (F xs) (UF xs)) (hs : BA p q s n Us) : BC p q (dCall F s) (fun β k => Us β fun xs => (UF xs).bind k) := ⟨fun ok kd ku hk ρ m => by
  unfold dCall; rw [bind_assoc]
  refine hs.run ok _ _ (fun xs ρ1 _ m1 => ?_) ρ m
  have := hF xs
  cases q : UF xs with
  | ok z =>
    rw [q] at this
    dsimp only
    rcases this with h | ⟨l, rfl, h⟩
    · rw [h]; exact hk _ _ m1
    · rw [h]; exact hk _ _ m1
  | er z => rw [q] at this; dsimp only; rw [show F xs = .er z from this]; exact ⟨_, rfl⟩
  | bad => trivial⟩
theorem be_callO {F : FF} {UF : List D → FR (List D)} (hF : ∀ xs, RefO (F xs) (UF xs)) (hs : BA p q s n Us) : BC p q (dCall F s) (fun β k => Us β fun xs => (UF xs).bind fun l => k (.lst l)) := ⟨fun ok kd ku hk ρ m => by
  unfold dCall; rw [bind_assoc]
  refine hs.run ok _ _ (fun xs ρ1 _ m1 => ?_) ρ m
  have := hF xs
  cases q : UF xs with
  | ok z => rw [q] at this; dsimp only; rw [show F xs = .ok (.own z) from this]; exact hk _ _ m1
  | er z => rw [q] at this; dsimp only; rw [show F xs = .er z from this]; exact ⟨_, rfl⟩
  | bad => trivial⟩
theorem be_ocall {F : FF} {UF : List D → FR (List D)} (hF : ∀ xs, RefO (F xs) (UF xs)) (hs : BA p q s n Us) : BC p q (oCall F s) (fun β k => Us β fun xs => (UF xs).bind k) := ⟨fun ok kd ku hk ρ m => by
  unfold oCall; rw [bind_assoc]
  refine hs.run ok _ _ (fun xs ρ1 _ m1 => ?_) ρ m
  have := hF xs
  cases q : UF xs with
  | ok z => rw [q] at this; dsimp only; rw [show F xs = .ok (.own z) from this]; exact hk _ _ m1
  | er z => rw [q] at this; dsimp only; rw [show F xs = .er z from this]; exact ⟨_, rfl⟩
  | bad => trivial⟩
/-! iterables -/
theorem iR1_eq (s : AD) : iR1 s = fun ρ => (s ρ).bind fun p => lift (rg1 p.1) p.2 := by
  funext ρ; unfold iR1; congr 1; funext p; obtain ⟨xs, ρ1⟩ := p; unfold rg1; dsimp only
  (repeat' split) <;> simp_all [lift]
theorem bi_r1 (hs : BA p q s n Us) : BC p q (iR1 s) (fun β k => Us β fun xs => (o2f (rg1 xs)).bind k) := ⟨fun ok kd ku hk ρ m => by
  rw [iR1_eq, bind_assoc]
  exact hs.run ok _ _ (fun xs ρ1 _ m1 => Ref.lift fun z => hk z ρ1 m1) ρ m⟩
theorem iR2_eq (s : AD) : iR2 s = fun ρ => (s ρ).bind fun p => lift (rg2 p.1) p.2 := by
  funext ρ; unfold iR2; congr 1; funext p; obtain ⟨xs, ρ1⟩ := p; unfold rg2; dsimp only
  (repeat' split) <;> simp_all [lift]
theorem bi_r2 (hs : BA p q s n Us) : BC p q (iR2 s) (fun β k => Us β fun xs => (o2f (rg2 xs)).bind k) := ⟨fun ok kd ku hk ρ m => by
  rw [iR2_eq, bind_assoc]
  exact hs.run ok _ _ (fun xs ρ1 _ m1 => Ref.lift fun z => hk z ρ1 m1) ρ m⟩
theorem iR3_eq (s : AD) : iR3 s = fun ρ => (s ρ).bind fun p => lift (rg3 p.1) p.2 := by
  funext ρ; unfold iR3; congr 1; funext p; obtain ⟨xs, ρ1⟩ := p; unfold rg3; dsimp only
  (repeat' split) <;> simp_all [lift]
theorem bi_r3 (hs : BA p q s n Us) : BC p q (iR3 s) (fun β k => Us β fun xs => (o2f (rg3 xs)).bind k) := ⟨fun ok kd ku hk ρ m => by
  rw [iR3_eq, bind_assoc]
  exact hs.run ok _ _ (fun xs ρ1 _ m1 => Ref.lift fun z => hk z ρ1 m1) ρ m⟩
theorem iEn_eq (s : AD) : iEn s = fun ρ => (s ρ).bind fun p => lift (enU p.1) p.2 := by
  funext ρ; unfold iEn; congr 1; funext p; obtain ⟨xs, ρ1⟩ := p; unfold enU; dsimp only
  (repeat' split) <;> simp_all [lift]
theorem bi_en (hs : BA p q s n Us) : BC p q (iEn s) (fun β k => Us β fun xs => (o2f (enU xs)).bind k) := ⟨fun ok kd ku hk ρ m => by
  rw [iEn_eq, bind_assoc]
  exact hs.run ok _ _ (fun xs ρ1 _ m1 => Ref.lift fun z => hk z ρ1 m1) ρ m⟩
theorem iZp_eq (s : AD) : iZp s = fun ρ => (s ρ).bind fun p => lift (zpU p.1) p.2 := by
  funext ρ; unfold iZp; congr 1; funext p; obtain ⟨xs, ρ1⟩ := p; unfold zpU; dsimp only
  (repeat' split) <;> simp_all [lift]
theorem bi_zp (hs : BA p q s n Us) : BC p q (iZp s) (fun β k => Us β fun xs => (o2f (zpU xs)).bind k) := ⟨fun ok kd ku hk ρ m => by
  rw [iZp_eq, bind_assoc]
  exact hs.run ok _ _ (fun xs ρ1 _ m1 => Ref.lift fun z => hk z ρ1 m1) ρ m⟩
theorem bi_sq (ha : BC p q a Ua) : BC p q (iSeq a) (fun β k => Ua β fun x => seqU x k) := ⟨fun ok kd ku hk ρ m => by
  unfold iSeq; rw [bind_assoc]
  refine ha.run ok _ _ (fun x ρ1 m1 => ?_) ρ m
  cases x with
  | lst l => exact hk _ ρ1 m1
  | tup l => exact hk _ ρ1 m1
  | _ => trivial⟩
theorem be_lenO {t : Nat} {l : List D} (h : p[i]? = some (.ow t l)) : BC p p (dLenV i) (fun _ k => k (.int l.length)) := ⟨fun ok kd ku hk ρ m => by
  unfold dLenV; rw [m.owAt h]; exact hk _ _ m⟩
theorem be_lenF (h : p[i]? = some (.fz d)) : BC p p (dLenV i) (fun _ k => (o2f (lenD [d])).bind k) := ⟨fun ok kd ku hk ρ m => by
  obtain ⟨v, e, hv⟩ := m.get h
  have hv : v = some (.fz d) := hv
  have e2 : DL.owAt ρ i = none := by unfold DL.owAt; rw [e, hv]
  unfold dLenV; rw [e2]
  exact (be_cb (ba_cons (be_var h) ba_nil)).run ok kd ku hk ρ m⟩
theorem be_lenR {l : List D} (h : p[i]? = some (.rd l)) : BC p p (dLenV i) (fun _ k => k (.int l.length)) := ⟨fun ok kd ku hk ρ m => by
  obtain ⟨v, e, hv⟩ := m.get h
  rcases hv with hv | ⟨t, hv⟩
  · have e2 : DL.owAt ρ i = none := by unfold DL.owAt; rw [e, hv]
    unfold dLenV; rw [e2]
    unfold dCb aCons dVar; rw [e, hv]; exact hk _ _ m
  · have e2 : DL.owAt ρ i = some (t, l) := by unfold DL.owAt; rw [e, hv]
    unfold dLenV; rw [e2]; exact hk _ _ m⟩
theorem be_pop {t : Nat} {l : List D} (h : p[i]? = some (.ow t l)) (hq : p.set i (.ow t l.dropLast) = q) : BC p q (dPop i) (fun _ k => popU l fun d _ => k d) := ⟨fun ok kd ku hk ρ m => by
  unfold dPop popU; rw [m.owAt h]; dsimp only
  cases l[l.length - 1]? with
  | some v => exact hk _ _ (hq ▸ m.set i (c := .ow t l.dropLast) rfl)
  | none => trivial⟩
theorem be_get {m : List (List Int × D)} (h : p[i]? = some (.od m)) (ha : BC p p a Ua) (hb : BC p p b Ub) : BC p p (dGetV i a b) (fun β k => Ua β fun x => Ub β fun y => getU m x y k) := ⟨fun ok kd ku hk ρ mm => by
  unfold dGetV; rw [mm.odAt h]; dsimp only; rw [bind_assoc]
  refine ha.run ok _ _ (fun x ρ1 m1 => ?_) ρ mm
  rw [bind_assoc]
  refine hb.run ok _ _ (fun y ρ2 m2 => ?_) ρ1 m1
  dsimp only
  rw [m2.odAt h]
  unfold getU
  cases keyD x with
  | none => trivial
  | some kk => exact hk _ _ m2⟩
/-! comprehensions -/
/-- one turn -/
def turn1 (g : GD) (e : ED) (vs : List Nat) (x : D) (ρ : Rho) : Res (D × Rho) := (g x ρ).bind fun ρ1 => (e ρ1).bind fun q => .ok (q.1, wipeR q.2 vs)
def turnF (g : GD) (tt : TD) (e : ED) (vs : List Nat) (x : D) (ρ : Rho) : Res (Option D × Rho) := (g x ρ).bind fun ρ1 => (tt ρ1).bind fun p => if p.1 = true then (e p.2).bind fun q => .ok (some q.1, wipeR q.2 vs) else .ok (none, wipeR p.2 vs)
def TurnOk (R : Pat) (g : GD) (e : ED) (vs : List Nat) (f : D → FR D) : Prop := ∀ x ρ, Mt R ρ → Ref (fun (g : D × Rho) a => g.1 = a ∧ Mt R g.2) (turn1 g e vs x ρ) (f x)
def TurnOkF (R : Pat) (g : GD) (tt : TD) (e : ED) (vs : List Nat) (f : D → FR (Option D)) : Prop := ∀ x ρ, Mt R ρ → Ref (fun (g : Option D × Rho) a => g.1 = a ∧ Mt R g.2) (turnF g tt e vs x ρ) (f x)
theorem lcGo_map {f : D → FR D} (h : TurnOk R g e vs f) : ∀ (items : List D) (ρ : Rho), Mt R ρ → ∀ us, mapU f items = .ok us → ∃ ρ', lcGo g tdYes e vs items ρ = .ok (us, ρ') ∧ Mt R ρ'
  | [], ρ, m, us, e => by cases e; exact ⟨ρ, rfl, m⟩
  | x :: xs, ρ, m, us, eq => by
    unfold mapU at eq
    have h1 := h x ρ m
    cases q : f x with
    | ok v =>
      rw [q] at eq h1
      obtain ⟨g', e1, e2, m1⟩ := h1
      obtain ⟨v', ρ1⟩ := g'
      have e2 : v' = v := e2
      subst e2
      rw [FR.bindN_ok] at eq
      cases q2 : mapU f xs with
      | ok vs' =>
        rw [q2, FR.bindN_ok] at eq
        cases eq
        obtain ⟨ρ', e3, m3⟩ := lcGo_map h xs ρ1 m1 vs' q2
        refine ⟨ρ', ?_, m3⟩
        unfold lcGo
        unfold turn1 at e1
        cases hg : g x ρ with
        | ok ρa =>
          rw [hg] at e1
          show Res.bind (e ρa) _ = _
          have e1 : (e ρa).bind (fun q => .ok (q.1, wipeR q.2 vs)) = .ok (v', ρ1) := e1
          cases he : e ρa with
          | ok qq =>
            rw [he] at e1
            cases e1
            show Res.bind (lcGo _ _ _ _ _ (wipeR qq.2 vs)) _ = _
            rw [e3]; rfl
          | er => rw [he] at e1; cases e1
          | bad => rw [he] at e1; cases e1
        | er => rw [hg] at e1; cases e1
        | bad => rw [hg] at e1; cases e1
      | er => rw [q2] at eq; cases eq
      | bad => rw [q2] at eq; cases eq
    | er => rw [q] at eq; cases eq
    | bad => rw [q] at eq; cases eq
theorem lcGo_fil {f : D → FR (Option D)} (h : TurnOkF R g tt e vs f) : ∀ (items : List D) (ρ : Rho), Mt R ρ → ∀ us, filU f items = .ok us → ∃ ρ', lcGo g tt e vs items ρ = .ok (us, ρ') ∧ Mt R ρ'
  | [], ρ, m, us, e => by cases e; exact ⟨ρ, rfl, m⟩
  | x :: xs, ρ, m, us, eq => by
    unfold filU at eq
    have h1 := h x ρ m
    cases q : f x with
    | ok v =>
      rw [q] at eq h1
      obtain ⟨g', e1, e2, m1⟩ := h1
      obtain ⟨v', ρ1⟩ := g'
      have e2 : v' = v := e2
      subst e2
      rw [FR.bindN_ok] at eq
      cases q2 : filU f xs with
      | ok vs' =>
        rw [q2, FR.bindN_ok] at eq
        cases eq
        obtain ⟨ρ', e3, m3⟩ := lcGo_fil h xs ρ1 m1 vs' q2
        refine ⟨ρ', ?_, m3⟩
        unfold lcGo
        unfold turnF at e1
        cases hg : g x ρ with
        | ok ρa =>
          rw [hg] at e1
          show Res.bind (tt ρa) _ = _
          have e1 : (tt ρa).bind (fun p => if p.1 = true then (e p.2).bind fun q => .ok (some q.1, wipeR q.2 vs) else .ok (none, wipeR p.2 vs)) = .ok (v', ρ1) := e1
          cases ht : tt ρa with
          | ok p =>
            rw [ht] at e1
            show (if p.1 = true then _ else _) = _
            have e1 : (if p.1 = true then (e p.2).bind fun q => .ok (some q.1, wipeR q.2 vs) else .ok (none, wipeR p.2 vs)) = Res.ok (v', ρ1) := e1
            by_cases hp : p.1 = true
            · rw [if_pos hp] at e1 ⊢
              cases he : e p.2 with
              | ok qq =>
                rw [he] at e1
                cases e1
                show Res.bind (lcGo _ _ _ _ _ (wipeR qq.2 vs)) _ = _
                rw [e3]; rfl
              | er => rw [he] at e1; cases e1
              | bad => rw [he] at e1; cases e1
            · rw [if_neg hp] at e1 ⊢
              cases e1
              exact e3
          | er => rw [ht] at e1; cases e1
          | bad => rw [ht] at e1; cases e1
        | er => rw [hg] at e1; cases e1
        | bad => rw [hg] at e1; cases e1
      | er => rw [q2] at eq; cases eq
      | bad => rw [q2] at eq; cases eq
    | er => rw [q] at eq; cases eq
    | bad => rw [q] at eq; cases eq
theorem mapU_ner (f : D → FR D) : ∀ (l : List D) (x : Str), mapU f l ≠ .er x
  | [], x => fun z => by cases z
  | a :: l, x => fun z => by
    unfold mapU at z
    cases q : f a with
    | ok v =>
      rw [q, FR.bindN_ok] at z
      cases q2 : mapU f l with
      | ok vs => rw [q2] at z; cases z
      | er => rw [q2] at z; cases z
      | bad => rw [q2] at z; cases z
    | er => rw [q] at z; cases z
    | bad => rw [q] at z; cases z
theorem filU_ner (f : D → FR (Option D)) : ∀ (l : List D) (x : Str), filU f l ≠ .er x
  | [], x => fun z => by cases z
  | a :: l, x => fun z => by
    unfold filU at z
    cases q : f a with
    | ok v =>
      rw [q, FR.bindN_ok] at z
      cases q2 : filU f l with
      | ok vs => rw [q2] at z; cases z
      | er => rw [q2] at z; cases z
      | bad => rw [q2] at z; cases z
    | er => rw [q] at z; cases z
    | bad => rw [q] at z; cases z
theorem be_lc {f : D → FR D} (hi : BC p q it Ui) (hn : noOwP q vs = true) (hR : wipeP q vs = R) (hb : TurnOk R g e vs f) : BC p q (oLc it g tdYes e vs) (fun β k => Ui β fun items => (lcU f items).bind k) := ⟨fun ok kd ku hk ρ m => by
  unfold oLc; rw [bind_assoc]
  refine hi.run ok _ _ (fun items ρ1 m1 => ?_) ρ m
  dsimp only
  unfold lcU
  by_cases hl : items.length ≤ 1000000
  · rw [if_pos ⟨anyOw_of m1 hn, hl⟩, if_pos hl]
    cases e2 : mapU f items with
    | ok us =>
      obtain ⟨ρ', e3, m3⟩ := lcGo_map hb items _ (hR ▸ m1.wipe vs) us e2
      rw [e3]
      exact hk _ _ (m1.back (hR ▸ m3))
    | er x => exact (mapU_ner f items x e2).elim
    | bad => trivial
  · rw [if_neg hl]; trivial⟩
theorem be_lcF {f : D → FR (Option D)} (hi : BC p q it Ui) (hn : noOwP q vs = true) (hR : wipeP q vs = R) (hb : TurnOkF R g tt e vs f) : BC p q (oLc it g tt e vs) (fun β k => Ui β fun items => (lcF f items).bind k) := ⟨fun ok kd ku hk ρ m => by
  unfold oLc; rw [bind_assoc]
  refine hi.run ok _ _ (fun items ρ1 m1 => ?_) ρ m
  dsimp only
  unfold lcF
  by_cases hl : items.length ≤ 1000000
  · rw [if_pos ⟨anyOw_of m1 hn, hl⟩, if_pos hl]
    cases e2 : filU f items with
    | ok us =>
      obtain ⟨ρ', e3, m3⟩ := lcGo_fil hb items _ (hR ▸ m1.wipe vs) us e2
      rw [e3]
      exact hk _ _ (m1.back (hR ▸ m3))
    | er x => exact (filU_ner f items x e2).elim
    | bad => trivial
  · rw [if_neg hl]; trivial⟩
/-! targets -/
theorem Ref.mono {γ α : Type} {ok ok' : γ → α → Prop} {r : Res γ} {u : FR α} (h : Ref ok r u) (k : ∀ g a, ok g a → ok' g a) : Ref ok' r u := by
  cases u with
  | ok a => obtain ⟨g, e, hg⟩ := h; exact ⟨g, e, k _ _ hg⟩
  | er x => exact h
  | bad => trivial
theorem turn_in {Q : Pat} {U : (β : Type) → (D → FR β) → FR β} (h : BC p Q e U) (hw : WK (wipeP Q vs) R) {ρ : Rho} (m : Mt p ρ) : Ref (fun (g : D × Rho) a => g.1 = a ∧ Mt R g.2) ((e ρ).bind fun q => .ok (q.1, wipeR q.2 vs)) (U D .ok) :=
  h.run (fun (g : D × Rho) a => g.1 = a ∧ Mt R g.2) (fun q => .ok (q.1, wipeR q.2 vs)) FR.ok (fun v ρ' m' => ⟨_, rfl, rfl, hw.mt (m'.wipe vs)⟩) ρ m
theorem turnF_in {Q Q' : Pat} {U : (β : Type) → (D → FR β) → FR β} {V : (β : Type) → (Bool → FR β) → FR β} (ht : BC p Q tt V) (h : BC Q Q' e U) (hw0 : WK (wipeP Q vs) R) (hw : WK (wipeP Q' vs) R) {ρ : Rho} (m : Mt p ρ) :
    Ref (fun (g : Option D × Rho) a => g.1 = a ∧ Mt R g.2) ((tt ρ).bind fun p => if p.1 = true then (e p.2).bind fun q => .ok (some q.1, wipeR q.2 vs) else .ok (none, wipeR p.2 vs)) (V (Option D) fun b => bif b then U (Option D) fun v => .ok (some v) else .ok none) :=
  ht.run _ _ _ (fun v ρ' m' => by
    cases v with
    | true => exact h.run (fun (g : Option D × Rho) a => g.1 = a ∧ Mt R g.2) (fun q => .ok (some q.1, wipeR q.2 vs)) (fun v => FR.ok (some v)) (fun v ρ' m' => ⟨_, rfl, rfl, hw.mt (m'.wipe vs)⟩) ρ' m'
    | false => exact ⟨_, rfl, rfl, hw0.mt (m'.wipe vs)⟩) ρ m
theorem turn_name {Q : D → Pat} {U : D → (β : Type) → (D → FR β) → FR β} (h : ∀ x, BC (R.set i (.fz x)) (Q x) e (U x)) (hw : ∀ x, WK (wipeP (Q x) vs) R) : TurnOk R (gdName i) e vs (fun x => U x D .ok) := fun x ρ m =>
  turn_in (h x) (hw x) (m.set i (c := .fz x) rfl)
theorem turn_tup2 {Q : D → D → Pat} {U : D → D → (β : Type) → (D → FR β) → FR β} (h : ∀ x y, BC ((R.set i (.fz x)).set j (.fz y)) (Q x y) e (U x y)) (hw : ∀ x y, WK (wipeP (Q x y) vs) R) :
    TurnOk R (gdTup 2 (gdCons (gdName i) (gdCons (gdName j) gdNil))) e vs (fun x => un2 x fun a b => U a b D .ok) := fun x ρ m => by
  show Ref _ _ (un2 x fun a b => U a b D .ok)
  unfold un2
  split
  · rename_i a b
    exact turn_in (h a b) (hw a b) ((m.set i (c := .fz a) rfl).set j (c := .fz b) rfl)
  · trivial
theorem turnF_name {Q : D → Pat} {Q' : D → Pat} {U : D → (β : Type) → (D → FR β) → FR β} {V : D → (β : Type) → (Bool → FR β) → FR β} (ht : ∀ x, BC (R.set i (.fz x)) (Q x) tt (V x)) (h : ∀ x, BC (Q x) (Q' x) e (U x)) (hw0 : ∀ x, WK (wipeP (Q x) vs) R) (hw : ∀ x, WK (wipeP (Q' x) vs) R) :
    TurnOkF R (gdName i) tt e vs (fun x => V x (Option D) fun b => bif b then U x (Option D) fun v => .ok (some v) else .ok none) := fun x ρ m =>
  turnF_in (ht x) (h x) (hw0 x) (hw x) (m.set i (c := .fz x) rfl)
theorem turnF_tup2 {Q : D → D → Pat} {Q' : D → D → Pat} {U : D → D → (β : Type) → (D → FR β) → FR β} {V : D → D → (β : Type) → (Bool → FR β) → FR β} (ht : ∀ x y, BC ((R.set i (.fz x)).set j (.fz y)) (Q x y) tt (V x y)) (h : ∀ x y, BC (Q x y) (Q' x y) e (U x y)) (hw0 : ∀ x y, WK (wipeP (Q x y) vs) R) (hw : ∀ x y, WK (wipeP (Q' x y) vs) R) :
    TurnOkF R (gdTup 2 (gdCons (gdName i) (gdCons (gdName j) gdNil))) tt e vs (fun x => un2 x fun x y => V x y (Option D) fun b => bif b then U x y (Option D) fun v => .ok (some v) else .ok none) := fun x ρ m => by
  show Ref _ _ (un2 x fun x y => V x y (Option D) fun b => bif b then U x y (Option D) fun v => .ok (some v) else .ok none)
  unfold un2
  split
  · rename_i a b
    exact turnF_in (ht a b) (h a b) (hw0 a b) (hw a b) ((m.set i (c := .fz a) rfl).set j (c := .fz b) rfl)
  · trivial
end
end DL

set_option Elab.async false
set_option linter.all false
set_option maxRecDepth 100000
set_option maxHeartbeats 2000000
/-! DU3: expressions that draw, statements -/
namespace DL
open PySem PySem.Spec PyProof.Rows L2
structure BT {γ : Type} (P Q : List D → Pat) (e : Rho → Res (γ × Rho)) (U : (β : Type) → (γ → List D → FR β) → List D → FR β) : Prop where
  run : ∀ {β δ : Type} (ok : δ → β → Prop) (kd : γ × Rho → Res δ) (ku : γ → List D → FR β), (∀ x t' ρ', Mt (Q t') ρ' → Ref ok (kd (x, ρ')) (ku x t')) → ∀ t ρ, Mt (P t) ρ → Ref ok ((e ρ).bind kd) (U β ku t)
theorem bt_of {γ : Type} {P Q : List D → Pat} {e : Rho → Res (γ × Rho)} {U : (β : Type) → (γ → FR β) → FR β} (h : ∀ t, BC (P t) (Q t) e U) : BT P Q e (fun β k t => U β fun x => k x t) := ⟨fun ok kd ku hk t ρ m => (h t).run ok kd (fun x => ku x t) (fun x ρ' m' => hk x t ρ' m') ρ m⟩
theorem BT.one {γ : Type} {P Q : List D → Pat} {e : Rho → Res (γ × Rho)} {U : (β : Type) → (γ → List D → FR β) → List D → FR β} (h : BT P Q e U) (t : List D) (ρ : Rho) (m : Mt (P t) ρ) : Ref (fun g a => g.1 = a.1 ∧ Mt (Q a.2) g.2) (e ρ) (U (γ × List D) (fun x t => .ok (x, t)) t) := by
  have := h.run (fun (g : γ × Rho) (a : γ × List D) => g.1 = a.1 ∧ Mt (Q a.2) g.2) (fun g => .ok g) (fun x t => .ok (x, t)) (fun x t' ρ' m' => ⟨(x, ρ'), rfl, rfl, m'⟩) t ρ m
  rwa [bind_ok'] at this
theorem Ref.seqT {γ δ β : Type} {P : List D → Pat} {r : Res (γ × Rho)} {u : FR (γ × List D)} {ok : δ → β → Prop} {kd : γ × Rho → Res δ} {ku : γ → List D → FR β} (h : Ref (fun g a => g.1 = a.1 ∧ Mt (P a.2) g.2) r u) (hk : ∀ x t ρ', Mt (P t) ρ' → Ref ok (kd (x, ρ')) (ku x t)) : Ref ok (r.bind kd) (u.bind fun z => ku z.1 z.2) :=
  Ref.bind h fun g a hg => by obtain ⟨x, ρ'⟩ := g; obtain ⟨x', t'⟩ := a; obtain ⟨h1, h2⟩ := hg; cases (h1 : x = x'); exact hk _ _ _ h2
structure BAT (P Q : List D → Pat) (s : AD) (n : Nat) (U : (β : Type) → (List D → List D → FR β) → List D → FR β) : Prop where
  run : ∀ {β δ : Type} (ok : δ → β → Prop) (kd : List D × Rho → Res δ) (ku : List D → List D → FR β), (∀ x t' ρ', x.length = n → Mt (Q t') ρ' → Ref ok (kd (x, ρ')) (ku x t')) → ∀ t ρ, Mt (P t) ρ → Ref ok ((s ρ).bind kd) (U β ku t)
section
variable {P Q R Q1 Q2 : List D → Pat} {a b c e : ED} {s : AD} {tt tu : TD} {x y d : D} {n i j l : Nat} {it : ID} {g : GD} {vs : List Nat}
variable {Ua Ub Ue : (β : Type) → (D → List D → FR β) → List D → FR β} {Us Ui : (β : Type) → (List D → List D → FR β) → List D → FR β} {Ut Uu : (β : Type) → (Bool → List D → FR β) → List D → FR β}
theorem bat_of {U : (β : Type) → (List D → FR β) → FR β} (h : ∀ t, BA (P t) (Q t) s n U) : BAT P Q s n (fun β k t => U β fun x => k x t) := ⟨fun ok kd ku hk t ρ m => (h t).run ok kd (fun x => ku x t) (fun x ρ' hl m' => hk x t ρ' hl m') ρ m⟩
theorem bat_cons (ha : BT P Q a Ua) (hs : BAT Q R s n Us) : BAT P R (aCons a s) (n + 1) (fun β k t => Ua β (fun x t => Us β (fun xs t => k (x :: xs) t) t) t) := ⟨fun ok kd ku hk t ρ m => by
  unfold aCons; rw [bind_assoc]
  refine ha.run ok _ _ (fun x t1 ρ1 m1 => ?_) t ρ m
  rw [bind_assoc]
  exact hs.run ok _ _ (fun xs t2 ρ2 hl m2 => hk (x :: xs) t2 ρ2 (by rw [List.length_cons, hl]) m2) t1 ρ1 m1⟩
theorem bt_op {f : D → D → Option D} (ha : BT P Q a Ua) (hb : BT Q R b Ub) : BT P R (dOp f a b) (fun β k t => Ua β (fun x t => Ub β (fun y t => (o2f (f x y)).bind fun z => k z t) t) t) := ⟨fun ok kd ku hk t ρ m => by
  unfold dOp; rw [bind_assoc]
  refine ha.run ok _ _ (fun x t1 ρ1 m1 => ?_) t ρ m
  rw [bind_assoc]
  exact hb.run ok _ _ (fun y t2 ρ2 m2 => Ref.lift fun z => hk z t2 ρ2 m2) t1 ρ1 m1⟩
theorem bt_oop {f : D → D → Option (List D)} (ha : BT P Q a Ua) (hb : BT Q R b Ub) : BT P R (oOp f a b) (fun β k t => Ua β (fun x t => Ub β (fun y t => (o2f (f x y)).bind fun z => k z t) t) t) := ⟨fun ok kd ku hk t ρ m => by
  unfold oOp; rw [bind_assoc]
  refine ha.run ok _ _ (fun x t1 ρ1 m1 => ?_) t ρ m
  rw [bind_assoc]
  exact hb.run ok _ _ (fun y t2 ρ2 m2 => Ref.lift fun z => hk z t2 ρ2 m2) t1 ρ1 m1⟩
theorem bt_un {f : D → Option D} (ha : BT P Q a Ua) : BT P Q (dUn f a) (fun β k t => Ua β (fun x t => (o2f (f x)).bind fun z => k z t) t) := ⟨fun ok kd ku hk t ρ m => by
  unfold dUn; rw [bind_assoc]
  exact ha.run ok _ _ (fun x t1 ρ1 m1 => Ref.lift fun z => hk z t1 ρ1 m1) t ρ m⟩
theorem bt_oun {f : D → Option (List D)} (ha : BT P Q a Ua) : BT P Q (oUn f a) (fun β k t => Ua β (fun x t => (o2f (f x)).bind fun z => k z t) t) := ⟨fun ok kd ku hk t ρ m => by
  unfold oUn; rw [bind_assoc]
  exact ha.run ok _ _ (fun x t1 ρ1 m1 => Ref.lift fun z => hk z t1 ρ1 m1) t ρ m⟩
theorem bt_cb {f : List D → Option D} (ha : BAT P Q s n Us) : BT P Q (dCb f s) (fun β k t => Us β (fun x t => (o2f (f x)).bind fun z => k z t) t) := ⟨fun ok kd ku hk t ρ m => by
  unfold dCb; rw [bind_assoc]
  exact ha.run ok _ _ (fun x t1 ρ1 _ m1 => Ref.lift fun z => hk z t1 ρ1 m1) t ρ m⟩
theorem bt_ocb {f : List D → Option (List D)} (ha : BAT P Q s n Us) : BT P Q (oCb f s) (fun β k t => Us β (fun x t => (o2f (f x)).bind fun z => k z t) t) := ⟨fun ok kd ku hk t ρ m => by
  unfold oCb; rw [bind_assoc]
  exact ha.run ok _ _ (fun x t1 ρ1 _ m1 => Ref.lift fun z => hk z t1 ρ1 m1) t ρ m⟩
theorem bt_tup (ha : BAT P Q s n Us) (hn : n ≤ 1000000) : BT P Q (dTup s) (fun β k t => Us β (fun xs t => k (.tup xs) t) t) := ⟨fun ok kd ku hk t ρ m => by
  unfold dTup; rw [bind_assoc]
  refine ha.run ok _ _ (fun x t1 ρ1 hl m1 => ?_) t ρ m
  dsimp only
  rw [if_pos (hl ▸ hn)]
  exact hk _ t1 ρ1 m1⟩
theorem bt_lst (ha : BAT P Q s n Us) (hn : n ≤ 1000000) : BT P Q (oLst s) (fun β k t => Us β (fun xs t => k xs t) t) := ⟨fun ok kd ku hk t ρ m => by
  unfold oLst; rw [bind_assoc]
  refine ha.run ok _ _ (fun x t1 ρ1 hl m1 => ?_) t ρ m
  dsimp only
  rw [if_pos (hl ▸ hn)]
  exact hk _ t1 ρ1 m1⟩
theorem bt_fz (ha : BT P Q s Us) : BT P Q (dFz s) (fun β k t => Us β (fun xs t => k (.lst xs) t) t) := ⟨fun ok kd ku hk t ρ m => by
  unfold dFz; rw [bind_assoc]
  exact ha.run ok _ _ (fun x t1 ρ1 m1 => hk _ t1 ρ1 m1) t ρ m⟩
theorem bt_bl (ha : BT P Q a Ua) : BT P Q (tBl a) (fun β k t => Ua β (fun x t => boolU x fun b => k b t) t) := ⟨fun ok kd ku hk t ρ m => by
  unfold tBl; rw [bind_assoc]
  refine ha.run ok _ _ (fun x t1 ρ1 m1 => ?_) t ρ m
  cases x with
  | bl b => exact hk b t1 ρ1 m1
  | _ => trivial⟩
theorem bt_no (ha : BT P Q tt Ut) : BT P Q (tNo tt) (fun β k t => Ut β (fun x t => k (!x) t) t) := ⟨fun ok kd ku hk t ρ m => by
  unfold tNo; rw [bind_assoc]
  exact ha.run ok _ _ (fun x t1 ρ1 m1 => hk (!x) t1 ρ1 m1) t ρ m⟩
theorem bt_an (ha : BT P Q tt Ut) (hb : BT Q Q tu Uu) : BT P Q (tAn tt tu) (fun β k t => Ut β (fun x t => FR.bind (bif x then Uu (Bool × List D) (fun x t => .ok (x, t)) t else .ok (false, t)) fun z => k z.1 z.2) t) := ⟨fun ok kd ku hk t ρ m => by
  unfold tAn; rw [bind_assoc]
  refine ha.run ok _ _ (fun x t1 ρ1 m1 => ?_) t ρ m
  cases x with
  | true => exact Ref.seqT (hb.one t1 ρ1 m1) hk
  | false => exact hk _ _ _ m1⟩
theorem bt_or (ha : BT P Q tt Ut) (hb : BT Q Q tu Uu) : BT P Q (tOR tt tu) (fun β k t => Ut β (fun x t => FR.bind (bif x then .ok (true, t) else Uu (Bool × List D) (fun x t => .ok (x, t)) t) fun z => k z.1 z.2) t) := ⟨fun ok kd ku hk t ρ m => by
  unfold tOR; rw [bind_assoc]
  refine ha.run ok _ _ (fun x t1 ρ1 m1 => ?_) t ρ m
  cases x with
  | true => exact hk _ _ _ m1
  | false => exact Ref.seqT (hb.one t1 ρ1 m1) hk⟩
theorem bt_and (ha : BT P Q a Ua) (hb : BT Q Q b Ub) : BT P Q (dAnd a b) (fun β k t => Ua β (fun x t => boolU x fun x => FR.bind (bif x then Ub (D × List D) (fun x t => .ok (x, t)) t else .ok (.bl false, t)) fun z => k z.1 z.2) t) := ⟨fun ok kd ku hk t ρ m => by
  unfold dAnd; rw [bind_assoc]
  refine ha.run ok _ _ (fun x t1 ρ1 m1 => ?_) t ρ m
  cases x with
  | bl k => cases k with
    | true => exact Ref.seqT (hb.one t1 ρ1 m1) hk
    | false => exact hk _ _ _ m1
  | _ => trivial⟩
theorem bt_orv (ha : BT P Q a Ua) (hb : BT Q Q b Ub) : BT P Q (dOr a b) (fun β k t => Ua β (fun x t => boolU x fun x => FR.bind (bif x then .ok (.bl true, t) else Ub (D × List D) (fun x t => .ok (x, t)) t) fun z => k z.1 z.2) t) := ⟨fun ok kd ku hk t ρ m => by
  unfold dOr; rw [bind_assoc]
  refine ha.run ok _ _ (fun x t1 ρ1 m1 => ?_) t ρ m
  cases x with
  | bl k => cases k with
    | true => exact hk _ _ _ m1
    | false => exact Ref.seqT (hb.one t1 ρ1 m1) hk
  | _ => trivial⟩
theorem bt_if (hc : BT P Q tt Ut) (ha : BT Q R a Ua) (hb : BT Q R b Ub) : BT P R (dIf tt a b) (fun β k t => Ut β (fun x t => FR.bind (bif x then Ua (D × List D) (fun x t => .ok (x, t)) t else Ub (D × List D) (fun x t => .ok (x, t)) t) fun z => k z.1 z.2) t) := ⟨fun ok kd ku hk t ρ m => by
  unfold dIf; rw [bind_assoc]
  refine hc.run ok _ _ (fun x t1 ρ1 m1 => ?_) t ρ m
  cases x with
  | true => exact Ref.seqT (ha.one t1 ρ1 m1) hk
  | false => exact Ref.seqT (hb.one t1 ρ1 m1) hk⟩
theorem bt_call {F : FF} {UF : List D → FR D} (hF : ∀ xs, RefF (F xs) (UF xs)) (hs : BAT P Q s n Us) : BT P Q (dCall F s) (fun β k t => Us β (fun xs t => (UF xs).bind fun z => k z t) t) := ⟨fun ok kd ku hk t ρ m => by
  unfold dCall; rw [bind_assoc]
  refine hs.run ok _ _ (fun xs t1 ρ1 _ m1 => ?_) t ρ m
  have := hF xs
  cases q : UF xs with
  | ok z =>
    rw [q] at this
    dsimp only
    rcases this with h | ⟨l, rfl, h⟩
    · rw [h]; exact hk _ _ _ m1
    · rw [h]; exact hk _ _ _ m1
  | er z => rw [q] at this; dsimp only; rw [show F xs = .er z from this]; exact ⟨_, rfl⟩
  | bad => trivial⟩
theorem bt_callO {F : FF} {UF : List D → FR (List D)} (hF : ∀ xs, RefO (F xs) (UF xs)) (hs : BAT P Q s n Us) : BT P Q (dCall F s) (fun β k t => Us β (fun xs t => (UF xs).bind fun z => k (.lst z) t) t) := ⟨fun ok kd ku hk t ρ m => by
  unfold dCall; rw [bind_assoc]
  refine hs.run ok _ _ (fun xs t1 ρ1 _ m1 => ?_) t ρ m
  have := hF xs
  cases q : UF xs with
  | ok z => rw [q] at this; dsimp only; rw [show F xs = .ok (.own z) from this]; exact hk _ _ _ m1
  | er z => rw [q] at this; dsimp only; rw [show F xs = .er z from this]; exact ⟨_, rfl⟩
  | bad => trivial⟩
theorem bt_callT {F : FT} {UF : List D → List D → FR (D × List D)} {tg : Nat} (hF : ∀ t xs, RefT (F t xs) (UF t xs)) (h : ∀ t, (P t)[i]? = some (.ow tg t)) (hs : BAT P Q s n Us) (hq : ∀ t, (Q t)[i]? = some (.ow tg t)) (hset : ∀ t t', (Q t).set i (.ow tg t') = Q t') :
    BT P Q (dCallT F i s) (fun β k t => Us β (fun xs t => (UF t xs).bindN fun r => k r.1 r.2) t) := ⟨fun ok kd ku hk t ρ m => by
  obtain ⟨v, e1, hv⟩ := m.get (h t)
  have hv : v = some (.ow tg t) := hv
  unfold dCallT; rw [e1, hv]; dsimp only; rw [bind_assoc]
  refine hs.run ok _ _ (fun xs t1 ρ1 _ m1 => ?_) t ρ m
  obtain ⟨v1, e2, hv1⟩ := m1.get (hq t1)
  have hv1 : v1 = some (.ow tg t1) := hv1
  dsimp only
  rw [e2, hv1]; dsimp only
  have := hF t1 xs
  cases q : UF t1 xs with
  | ok z =>
    rw [q] at this
    rw [show F t1 xs = .ok z from this]
    exact hk z.1 z.2 _ (by rw [← hset t1 z.2]; exact m1.set i (c := .ow tg z.2) rfl)
  | er z => trivial
  | bad => trivial⟩
theorem bti_r1 (hs : BAT P Q s n Us) : BT P Q (iR1 s) (fun β k t => Us β (fun xs t => (o2f (rg1 xs)).bind fun z => k z t) t) := ⟨fun ok kd ku hk t ρ m => by
  rw [iR1_eq, bind_assoc]
  exact hs.run ok _ _ (fun xs t1 ρ1 _ m1 => Ref.lift fun z => hk z t1 ρ1 m1) t ρ m⟩
theorem bti_r2 (hs : BAT P Q s n Us) : BT P Q (iR2 s) (fun β k t => Us β (fun xs t => (o2f (rg2 xs)).bind fun z => k z t) t) := ⟨fun ok kd ku hk t ρ m => by
  rw [iR2_eq, bind_assoc]
  exact hs.run ok _ _ (fun xs t1 ρ1 _ m1 => Ref.lift fun z => hk z t1 ρ1 m1) t ρ m⟩
theorem bti_en (hs : BAT P Q s n Us) : BT P Q (iEn s) (fun β k t => Us β (fun xs t => (o2f (enU xs)).bind fun z => k z t) t) := ⟨fun ok kd ku hk t ρ m => by
  rw [iEn_eq, bind_assoc]
  exact hs.run ok _ _ (fun xs t1 ρ1 _ m1 => Ref.lift fun z => hk z t1 ρ1 m1) t ρ m⟩
theorem bti_sq (ha : BT P Q a Ua) : BT P Q (iSeq a) (fun β k t => Ua β (fun x t => seqU x fun l => k l t) t) := ⟨fun ok kd ku hk t ρ m => by
  unfold iSeq; rw [bind_assoc]
  refine ha.run ok _ _ (fun x t1 ρ1 m1 => ?_) t ρ m
  cases x with
  | lst l => exact hk _ t1 ρ1 m1
  | tup l => exact hk _ t1 ρ1 m1
  | _ => trivial⟩
/-! comprehensions that draw -/
theorem Mt.back2 {p p' : Pat} {ρ ρn : Rho} (m : Mt p ρ) {vs : List Nat} (hv : vs.map (p'[·]?) = vs.map (p[·]?)) (mn : Mt (wipeP p' vs) ρn) : Mt p' (putBack ρ ρn vs) := by
  have hl : ρn.length = p'.length := by rw [← mn.len, wipeP_len]
  refine Mt.of (by rw [putBack_len, hl]) fun i c b h1 h2 => ?_
  have il : i < p'.length := (List.getElem?_eq_some_iff.mp h1).1
  by_cases hi : i ∈ vs
  · have hp : p[i]? = some c := by
      rw [← h1]
      have : ∀ us : List Nat, us.map (p'[·]?) = us.map (p[·]?) → i ∈ us → p[i]? = p'[i]? := by
        intro us
        induction us with
        | nil => intro _ h; cases h
        | cons v us ih =>
          intro h hm
          rw [List.map_cons, List.map_cons, List.cons.injEq] at h
          rcases List.mem_cons.mp hm with hm | hm
          · subst hm; exact h.1.symm
          · exact ih h.2 hm
      exact this vs hv hi
    have : ∀ us : List Nat, i ∈ us → (putBack ρ ρn us)[i]? = some (ρ[i]?.getD none) := by
      intro us
      induction us with
      | nil => intro h; cases h
      | cons v us ih =>
        intro hm
        unfold putBack
        by_cases hvi : v = i
        · subst hvi; rw [List.getElem?_set_self (by rw [putBack_len, hl]; exact il)]
        · rw [List.getElem?_set_ne hvi]
          rcases List.mem_cons.mp hm with hm | hm
          · exact (hvi hm.symm).elim
          · exact ih hm
    rw [this vs hi] at h2
    obtain ⟨b', e', k⟩ := m.get hp
    rw [e'] at h2
    cases h2
    exact k
  · have e1 : ∀ us : List Nat, i ∉ us → (putBack ρ ρn us)[i]? = ρn[i]? := by
      intro us
      induction us with
      | nil => intro _; rfl
      | cons v us ih =>
        intro h
        unfold putBack
        rw [List.getElem?_set_ne (fun z : v = i => h (z ▸ List.mem_cons_self))]
        exact ih fun z => h (List.mem_cons_of_mem _ z)
    have e2 : ∀ us : List Nat, i ∉ us → (wipeP p' us)[i]? = p'[i]? := by
      intro us
      induction us with
      | nil => intro _; rfl
      | cons v us ih =>
        intro h
        unfold wipeP
        rw [List.getElem?_set_ne (fun z : v = i => h (z ▸ List.mem_cons_self))]
        exact ih fun z => h (List.mem_cons_of_mem _ z)
    rw [e1 vs hi] at h2
    exact mn.at ((e2 vs hi).trans h1) h2
def TurnOkT (R : List D → Pat) (g : GD) (e : ED) (vs : List Nat) (f : D → List D → FR (D × List D)) : Prop := ∀ x t ρ, Mt (R t) ρ → Ref (fun (g : D × Rho) (a : D × List D) => g.1 = a.1 ∧ Mt (R a.2) g.2) (turn1 g e vs x ρ) (f x t)
def TurnOkFT (R : List D → Pat) (g : GD) (tt : TD) (e : ED) (vs : List Nat) (f : D → List D → FR (Option D × List D)) : Prop := ∀ x t ρ, Mt (R t) ρ → Ref (fun (g : Option D × Rho) (a : Option D × List D) => g.1 = a.1 ∧ Mt (R a.2) g.2) (turnF g tt e vs x ρ) (f x t)
theorem lcGo_mapT {f : D → List D → FR (D × List D)} (h : TurnOkT R g e vs f) : ∀ (items : List D) (t : List D) (ρ : Rho), Mt (R t) ρ → ∀ us, mapT f items t = .ok us → ∃ ρ', lcGo g tdYes e vs items ρ = .ok (us.1, ρ') ∧ Mt (R us.2) ρ'
  | [], t, ρ, m, us, e => by cases e; exact ⟨ρ, rfl, m⟩
  | x :: xs, t, ρ, m, us, eq => by
    unfold mapT at eq
    have h1 := h x t ρ m
    cases q : f x t with
    | ok v =>
      rw [q] at eq h1
      obtain ⟨g', e1, e2, m1⟩ := h1
      obtain ⟨v', ρ1⟩ := g'
      have e2 : v' = v.1 := e2
      subst e2
      rw [FR.bindN_ok] at eq
      cases q2 : mapT f xs v.2 with
      | ok vs' =>
        rw [q2, FR.bindN_ok] at eq
        cases eq
        obtain ⟨ρ', e3, m3⟩ := lcGo_mapT h xs v.2 ρ1 m1 vs' q2
        refine ⟨ρ', ?_, m3⟩
        unfold lcGo
        unfold turn1 at e1
        cases hg : g x ρ with
        | ok ρa =>
          rw [hg] at e1
          show Res.bind (e ρa) _ = _
          have e1 : (e ρa).bind (fun q => .ok (q.1, wipeR q.2 vs)) = .ok (v.1, ρ1) := e1
          cases he : e ρa with
          | ok qq =>
            rw [he] at e1
            obtain ⟨qa, qb⟩ := qq
            have e1 : Res.ok (qa, wipeR qb vs) = .ok (v.1, ρ1) := e1
            injection e1 with e1
            injection e1 with ea eb
            show Res.bind (lcGo _ _ _ _ _ (wipeR qb vs)) _ = _
            rw [eb, e3, ← ea]; rfl
          | er => rw [he] at e1; cases e1
          | bad => rw [he] at e1; cases e1
        | er => rw [hg] at e1; cases e1
        | bad => rw [hg] at e1; cases e1
      | er => rw [q2] at eq; cases eq
      | bad => rw [q2] at eq; cases eq
    | er => rw [q] at eq; cases eq
    | bad => rw [q] at eq; cases eq
theorem lcGo_filT {f : D → List D → FR (Option D × List D)} (h : TurnOkFT R g tt e vs f) : ∀ (items : List D) (t : List D) (ρ : Rho), Mt (R t) ρ → ∀ us, filT f items t = .ok us → ∃ ρ', lcGo g tt e vs items ρ = .ok (us.1, ρ') ∧ Mt (R us.2) ρ'
  | [], t, ρ, m, us, e => by cases e; exact ⟨ρ, rfl, m⟩
  | x :: xs, t, ρ, m, us, eq => by
    unfold filT at eq
    have h1 := h x t ρ m
    cases q : f x t with
    | ok v =>
      rw [q] at eq h1
      obtain ⟨g', e1, e2, m1⟩ := h1
      obtain ⟨v', ρ1⟩ := g'
      have e2 : v' = v.1 := e2
      rw [FR.bindN_ok] at eq
      cases q2 : filT f xs v.2 with
      | ok vs' =>
        rw [q2, FR.bindN_ok] at eq
        cases eq
        obtain ⟨ρ', e3, m3⟩ := lcGo_filT h xs v.2 ρ1 m1 vs' q2
        refine ⟨ρ', ?_, m3⟩
        unfold lcGo
        unfold turnF at e1
        cases hg : g x ρ with
        | ok ρa =>
          rw [hg] at e1
          show Res.bind (tt ρa) _ = _
          have e1 : (tt ρa).bind (fun p => if p.1 = true then (e p.2).bind fun q => .ok (some q.1, wipeR q.2 vs) else .ok (none, wipeR p.2 vs)) = .ok (v', ρ1) := e1
          cases ht : tt ρa with
          | ok p =>
            rw [ht] at e1
            show (if p.1 = true then _ else _) = _
            have e1 : (if p.1 = true then (e p.2).bind fun q => .ok (some q.1, wipeR q.2 vs) else .ok (none, wipeR p.2 vs)) = Res.ok (v', ρ1) := e1
            by_cases hp : p.1 = true
            · rw [if_pos hp] at e1 ⊢
              cases he : e p.2 with
              | ok qq =>
                rw [he] at e1
                obtain ⟨qa, qb⟩ := qq
                have e1 : Res.ok (some qa, wipeR qb vs) = .ok (v', ρ1) := e1
                injection e1 with e1
                injection e1 with ea eb
                show Res.bind (lcGo _ _ _ _ _ (wipeR qb vs)) _ = _
                rw [eb, e3, ← e2, ← ea]; rfl
              | er => rw [he] at e1; cases e1
              | bad => rw [he] at e1; cases e1
            · rw [if_neg hp] at e1 ⊢
              injection e1 with e1
              injection e1 with ea eb
              rw [eb, e3, ← e2, ← ea]
          | er => rw [ht] at e1; cases e1
          | bad => rw [ht] at e1; cases e1
        | er => rw [hg] at e1; cases e1
        | bad => rw [hg] at e1; cases e1
      | er => rw [q2] at eq; cases eq
      | bad => rw [q2] at eq; cases eq
    | er => rw [q] at eq; cases eq
    | bad => rw [q] at eq; cases eq
theorem mapT_ner (f : D → List D → FR (D × List D)) : ∀ (l t : List D) (x : Str), mapT f l t ≠ .er x
  | [], t, x => fun z => by cases z
  | a :: l, t, x => fun z => by
    unfold mapT at z
    cases q : f a t with
    | ok v =>
      rw [q, FR.bindN_ok] at z
      cases q2 : mapT f l v.2 with
      | ok vs => rw [q2] at z; cases z
      | er => rw [q2] at z; cases z
      | bad => rw [q2] at z; cases z
    | er => rw [q] at z; cases z
    | bad => rw [q] at z; cases z
theorem filT_ner (f : D → List D → FR (Option D × List D)) : ∀ (l t : List D) (x : Str), filT f l t ≠ .er x
  | [], t, x => fun z => by cases z
  | a :: l, t, x => fun z => by
    unfold filT at z
    cases q : f a t with
    | ok v =>
      rw [q, FR.bindN_ok] at z
      cases q2 : filT f l v.2 with
      | ok vs => rw [q2] at z; cases z
      | er => rw [q2] at z; cases z
      | bad => rw [q2] at z; cases z
    | er => rw [q] at z; cases z
    | bad => rw [q] at z; cases z
theorem bt_lc {f : D → List D → FR (D × List D)} (hi : BT P Q it Ui) (hn : ∀ t, noOwP (Q t) vs = true) (hR : ∀ t, wipeP (Q t) vs = R t) (hv : ∀ t t', vs.map ((Q t')[·]?) = vs.map ((Q t)[·]?)) (hb : TurnOkT R g e vs f) : BT P Q (oLc it g tdYes e vs) (fun β k t => Ui β (fun items t => (lcT f items t).bind fun r => k r.1 r.2) t) := ⟨fun ok kd ku hk t ρ m => by
  unfold oLc; rw [bind_assoc]
  refine hi.run ok _ _ (fun items t1 ρ1 m1 => ?_) t ρ m
  dsimp only
  unfold lcT
  by_cases hl : items.length ≤ 1000000
  · rw [if_pos ⟨anyOw_of m1 (hn t1), hl⟩, if_pos hl]
    cases e2 : mapT f items t1 with
    | ok us =>
      obtain ⟨ρ', e3, m3⟩ := lcGo_mapT hb items t1 _ (hR t1 ▸ m1.wipe vs) us e2
      rw [e3]
      exact hk _ _ _ (m1.back2 (hv _ _) (hR us.2 ▸ m3))
    | er x => exact (mapT_ner f items t1 x e2).elim
    | bad => trivial
  · rw [if_neg hl]; trivial⟩
theorem bt_lcF {f : D → List D → FR (Option D × List D)} (hi : BT P Q it Ui) (hn : ∀ t, noOwP (Q t) vs = true) (hR : ∀ t, wipeP (Q t) vs = R t) (hv : ∀ t t', vs.map ((Q t')[·]?) = vs.map ((Q t)[·]?)) (hb : TurnOkFT R g tt e vs f) : BT P Q (oLc it g tt e vs) (fun β k t => Ui β (fun items t => (lcFT f items t).bind fun r => k r.1 r.2) t) := ⟨fun ok kd ku hk t ρ m => by
  unfold oLc; rw [bind_assoc]
  refine hi.run ok _ _ (fun items t1 ρ1 m1 => ?_) t ρ m
  dsimp only
  unfold lcFT
  by_cases hl : items.length ≤ 1000000
  · rw [if_pos ⟨anyOw_of m1 (hn t1), hl⟩, if_pos hl]
    cases e2 : filT f items t1 with
    | ok us =>
      obtain ⟨ρ', e3, m3⟩ := lcGo_filT hb items t1 _ (hR t1 ▸ m1.wipe vs) us e2
      rw [e3]
      exact hk _ _ _ (m1.back2 (hv _ _) (hR us.2 ▸ m3))
    | er x => exact (filT_ner f items t1 x e2).elim
    | bad => trivial
  · rw [if_neg hl]; trivial⟩
theorem turnT_in {Q : List D → Pat} {U : (β : Type) → (D → List D → FR β) → List D → FR β} (h : BT P Q e U) (hw : ∀ t, WK (wipeP (Q t) vs) (R t)) {t : List D} {ρ : Rho} (m : Mt (P t) ρ) : Ref (fun (g : D × Rho) (a : D × List D) => g.1 = a.1 ∧ Mt (R a.2) g.2) ((e ρ).bind fun q => .ok (q.1, wipeR q.2 vs)) (U (D × List D) (fun x t => .ok (x, t)) t) :=
  h.run (fun (g : D × Rho) (a : D × List D) => g.1 = a.1 ∧ Mt (R a.2) g.2) (fun q => .ok (q.1, wipeR q.2 vs)) (fun x t => FR.ok (x, t)) (fun v t' ρ' m' => ⟨_, rfl, rfl, (hw t').mt (m'.wipe vs)⟩) t ρ m
theorem turnFT_in {Q Q' : List D → Pat} {U : (β : Type) → (D → List D → FR β) → List D → FR β} {V : (β : Type) → (Bool → List D → FR β) → List D → FR β} (ht : BT P Q tt V) (h : BT Q Q' e U) (hw0 : ∀ t, WK (wipeP (Q t) vs) (R t)) (hw : ∀ t, WK (wipeP (Q' t) vs) (R t)) {t : List D} {ρ : Rho} (m : Mt (P t) ρ) :
    Ref (fun (g : Option D × Rho) (a : Option D × List D) => g.1 = a.1 ∧ Mt (R a.2) g.2) ((tt ρ).bind fun p => if p.1 = true then (e p.2).bind fun q => .ok (some q.1, wipeR q.2 vs) else .ok (none, wipeR p.2 vs)) (V (Option D × List D) (fun b t => bif b then U (Option D × List D) (fun v t => .ok (some v, t)) t else .ok (none, t)) t) :=
  ht.run _ _ _ (fun v t' ρ' m' => by
    cases v with
    | true => exact h.run (fun (g : Option D × Rho) (a : Option D × List D) => g.1 = a.1 ∧ Mt (R a.2) g.2) (fun q => .ok (some q.1, wipeR q.2 vs)) (fun v t => FR.ok (some v, t)) (fun v t' ρ' m' => ⟨_, rfl, rfl, (hw t').mt (m'.wipe vs)⟩) t' ρ' m'
    | false => exact ⟨_, rfl, rfl, (hw0 t').mt (m'.wipe vs)⟩) t ρ m
theorem turnT_name {Q : D → List D → Pat} {U : D → (β : Type) → (D → List D → FR β) → List D → FR β} (h : ∀ x, BT (fun t => (R t).set i (.fz x)) (Q x) e (U x)) (hw : ∀ x t, WK (wipeP (Q x t) vs) (R t)) : TurnOkT R (gdName i) e vs (fun x => U x (D × List D) fun x t => .ok (x, t)) := fun x t ρ m =>
  turnT_in (P := fun t => (R t).set i (.fz x)) (h x) (hw x) (m.set i (c := .fz x) rfl)
theorem turnT_tup2 {Q : D → D → List D → Pat} {U : D → D → (β : Type) → (D → List D → FR β) → List D → FR β} (h : ∀ x y, BT (fun t => ((R t).set i (.fz x)).set j (.fz y)) (Q x y) e (U x y)) (hw : ∀ x y t, WK (wipeP (Q x y t) vs) (R t)) :
    TurnOkT R (gdTup 2 (gdCons (gdName i) (gdCons (gdName j) gdNil))) e vs (fun x t => un2 x fun a b => U a b (D × List D) (fun x t => .ok (x, t)) t) := fun x t ρ m => by
  show Ref _ _ (un2 x fun a b => U a b (D × List D) (fun x t => .ok (x, t)) t)
  unfold un2
  split
  · rename_i a b
    exact turnT_in (P := fun t => ((R t).set i (.fz a)).set j (.fz b)) (h a b) (hw a b) ((m.set i (c := .fz a) rfl).set j (c := .fz b) rfl)
  · trivial
theorem turnFT_name {Q : D → List D → Pat} {Q' : D → List D → Pat} {U : D → (β : Type) → (D → List D → FR β) → List D → FR β} {V : D → (β : Type) → (Bool → List D → FR β) → List D → FR β} (ht : ∀ x, BT (fun t => (R t).set i (.fz x)) (Q x) tt (V x)) (h : ∀ x, BT (Q x) (Q' x) e (U x)) (hw0 : ∀ x t, WK (wipeP (Q x t) vs) (R t)) (hw : ∀ x t, WK (wipeP (Q' x t) vs) (R t)) :
    TurnOkFT R (gdName i) tt e vs (fun x => V x (Option D × List D) fun b t => bif b then U x (Option D × List D) (fun v t => .ok (some v, t)) t else .ok (none, t)) := fun x t ρ m =>
  turnFT_in (P := fun t => (R t).set i (.fz x)) (ht x) (h x) (hw0 x) (hw x) (m.set i (c := .fz x) rfl)
end
end DL

set_option Elab.async false
set_option linter.all false
set_option maxRecDepth 100000
set_option maxHeartbeats 2000000
/-! DU4: statements, bodies -/
namespace DL
open PySem PySem.Spec PyProof.Rows L2
def ST {β : Type} (p : Pat) (s : SD) (ok : Fl → β → Prop) (u : FR β) : Prop := ∀ ρ, Mt p ρ → Ref ok (s ρ) u
def okV (f : Fl) (d : D) : Prop := (∃ ρ, f = .rt d ρ) ∨ (∃ l ρ, d = .lst l ∧ f = .ro l ρ)
def okO (f : Fl) (l : List D) : Prop := ∃ ρ, f = .ro l ρ
def okT (f : Fl) (a : D × List D) : Prop := ∃ ρ, f = .rt a.1 ρ ∧ own0 ρ = some a.2
def isRet : Fl → Bool
  | .rt _ _ => true
  | .ro _ _ => true
  | _ => false
def okL {σ β : Type} (P : σ → Pat) (ok : Fl → β → Prop) (f : Fl) : Lo σ β → Prop
  | .nx s => ∃ ρ, (f = .nx ρ ∨ f = .ct ρ) ∧ Mt (P s) ρ
  | .bk s => ∃ ρ, f = .bk ρ ∧ Mt (P s) ρ
  | .ret b => isRet f = true ∧ ok f b
def okN {σ : Type} (P : σ → Pat) (f : Fl) (s : σ) : Prop := ∃ ρ, (f = .nx ρ ∨ f = .ct ρ) ∧ Mt (P s) ρ
def okF {β : Type} (p : Pat) (ok : Fl → β → Prop) (f : Fl) : Option β → Prop
  | none => ∃ ρ, (f = .nx ρ ∨ f = .ct ρ) ∧ Mt p ρ
  | some b => isRet f = true ∧ ok f b
section
variable {β : Type} {ok : Fl → β → Prop} {p q r q' : Pat} {a b e : ED} {o s : AD} {tt : TD} {st su rest : SD} {i j l : Nat} {it : ID} {d : D} {u v : FR β}
variable {Ua Ue Uk : (β : Type) → (D → FR β) → FR β} {Us Ui : (β : Type) → (List D → FR β) → FR β} {Ut : (β : Type) → (Bool → FR β) → FR β}
theorem Ref.okk {γ α : Type} {ok : γ → α → Prop} {g : γ} {a : α} (h : ok g a) : Ref ok (.ok g) (.ok a) := ⟨g, rfl, h⟩
theorem st_set {k : D → FR β} {Q : D → Pat} (he : BC p q e Ue) (hq : ∀ v, q.set i (.fz v) = Q v) (hr : ∀ v, ST (Q v) rest ok (k v)) : ST p (sSeq (sSet i e) rest) ok (Ue β k) := fun ρ m => by
  unfold sSeq sSet; rw [bind_assoc]
  exact he.run ok _ _ (fun x ρ1 m1 => hr x _ (hq x ▸ m1.set i (c := .fz x) rfl)) ρ m
theorem st_setO {k : List D → FR β} {Q : List D → Pat} (he : BC p q o Us) (hq : ∀ v, q.set i (.ow 1 v) = Q v) (hr : ∀ v, ST (Q v) rest ok (k v)) : ST p (sSeq (sSetO i o) rest) ok (Us β k) := fun ρ m => by
  unfold sSeq sSetO; rw [bind_assoc]
  exact he.run ok _ _ (fun x ρ1 m1 => hr x _ (hq x ▸ m1.set i (c := .ow 1 x) rfl)) ρ m
theorem st_setD (hq : p.set i (.od []) = q) (hr : ST q rest ok u) : ST p (sSeq (sSetD i) rest) ok u := fun ρ m => by
  unfold sSeq sSetD
  exact hr _ (hq ▸ m.set i (c := .od []) rfl)
theorem st_par {n : Nat} {k : D → D → FR β} {Q : D → D → Pat} (he : BA p q s n Us) (hq : ∀ x y, (q.set i (.fz x)).set j (.fz y) = Q x y) (hr : ∀ x y, ST (Q x y) rest ok (k x y)) : ST p (sSeq (sPar i j s) rest) ok (Us β fun xs => match xs with
    | [x, y] => k x y
    | _ => .bad) := fun ρ m => by
  unfold sSeq sPar; rw [bind_assoc]
  refine he.run ok _ _ (fun x ρ1 _ m1 => ?_) ρ m
  rcases x with _ | ⟨x, _ | ⟨y, _ | ⟨z, w⟩⟩⟩
  · trivial
  · trivial
  · exact hr _ _ _ (hq _ _ ▸ (m1.set i (c := .fz _) rfl).set j (c := .fz _) rfl)
  · trivial
theorem st_par3 {n : Nat} {k : D → D → D → FR β} {Q : D → D → D → Pat} (he : BA p q s n Us) (hq : ∀ x y z, ((q.set i (.fz x)).set j (.fz y)).set l (.fz z) = Q x y z) (hr : ∀ x y z, ST (Q x y z) rest ok (k x y z)) : ST p (sSeq (sPar3 i j l s) rest) ok (Us β fun xs => match xs with
    | [x, y, z] => k x y z
    | _ => .bad) := fun ρ m => by
  unfold sSeq sPar3; rw [bind_assoc]
  refine he.run ok _ _ (fun x ρ1 _ m1 => ?_) ρ m
  rcases x with _ | ⟨x, _ | ⟨y, _ | ⟨z, _ | ⟨w, w'⟩⟩⟩⟩
  · trivial
  · trivial
  · trivial
  · exact hr _ _ _ _ (hq _ _ _ ▸ ((m1.set i (c := .fz _) rfl).set j (c := .fz _) rfl).set l (c := .fz _) rfl)
  · trivial
/-- targets: name, pair, three, four -/
theorem asg2_of {x : D} {kd : Rho → Res Fl} {ku : D → D → FR β} {Q : D → D → Pat} (hq : ∀ x y, (q.set i (.fz x)).set j (.fz y) = Q x y) (hr : ∀ x y ρ, Mt (Q x y) ρ → Ref ok (kd ρ) (ku x y)) {ρ : Rho} (m : Mt q ρ) : Ref ok ((gdTup 2 (gdCons (gdName i) (gdCons (gdName j) gdNil)) x ρ).bind kd) (un2 x ku) := by
  unfold un2
  split
  · exact hr _ _ _ (hq _ _ ▸ (m.set i (c := .fz _) rfl).set j (c := .fz _) rfl)
  · trivial
theorem asg3_of {x : D} {kd : Rho → Res Fl} {ku : D → D → D → FR β} {Q : D → D → D → Pat} (hq : ∀ x y z, ((q.set i (.fz x)).set j (.fz y)).set l (.fz z) = Q x y z) (hr : ∀ x y z ρ, Mt (Q x y z) ρ → Ref ok (kd ρ) (ku x y z)) {ρ : Rho} (m : Mt q ρ) : Ref ok ((gdTup 3 (gdCons (gdName i) (gdCons (gdName j) (gdCons (gdName l) gdNil))) x ρ).bind kd) (un3 x ku) := by
  unfold un3
  split
  · exact hr _ _ _ _ (hq _ _ _ ▸ ((m.set i (c := .fz _) rfl).set j (c := .fz _) rfl).set l (c := .fz _) rfl)
  · trivial
theorem asg4_of {x : D} {n : Nat} {kd : Rho → Res Fl} {ku : D → D → D → D → FR β} {Q : D → D → D → D → Pat} (hq : ∀ x y z w, (((q.set i (.fz x)).set j (.fz y)).set l (.fz z)).set n (.fz w) = Q x y z w) (hr : ∀ x y z w ρ, Mt (Q x y z w) ρ → Ref ok (kd ρ) (ku x y z w)) {ρ : Rho} (m : Mt q ρ) : Ref ok ((gdTup 4 (gdCons (gdName i) (gdCons (gdName j) (gdCons (gdName l) (gdCons (gdName n) gdNil)))) x ρ).bind kd) (un4 x ku) := by
  unfold un4
  split
  · exact hr _ _ _ _ _ (hq _ _ _ _ ▸ (((m.set i (c := .fz _) rfl).set j (c := .fz _) rfl).set l (c := .fz _) rfl).set n (c := .fz _) rfl)
  · trivial
theorem sAsg_seq (e : ED) (g : GD) (rest : SD) (ρ : Rho) : sSeq (sAsg e g) rest ρ = (e ρ).bind fun p => (g p.1 p.2).bind rest := by
  unfold sSeq sAsg; rw [bind_assoc]; congr 1; funext p; rw [bind_assoc]; rfl
theorem st_asg1 {k : D → FR β} {Q : D → Pat} (he : BC p q e Ue) (hq : ∀ v, q.set i (.fz v) = Q v) (hr : ∀ v, ST (Q v) rest ok (k v)) : ST p (sSeq (sAsg e (gdName i)) rest) ok (Ue β k) := fun ρ m => by
  rw [sAsg_seq]
  exact he.run ok _ _ (fun x ρ1 m1 => hr x _ (hq x ▸ m1.set i (c := .fz x) rfl)) ρ m
theorem st_asg2 {k : D → D → FR β} {Q : D → D → Pat} (he : BC p q e Ue) (hq : ∀ x y, (q.set i (.fz x)).set j (.fz y) = Q x y) (hr : ∀ x y, ST (Q x y) rest ok (k x y)) : ST p (sSeq (sAsg e (gdTup 2 (gdCons (gdName i) (gdCons (gdName j) gdNil)))) rest) ok (Ue β fun x => un2 x k) := fun ρ m => by
  rw [sAsg_seq]
  exact he.run ok _ _ (fun x ρ1 m1 => asg2_of hq (fun x y ρ m => hr x y ρ m) m1) ρ m
theorem st_asg3 {k : D → D → D → FR β} {Q : D → D → D → Pat} (he : BC p q e Ue) (hq : ∀ x y z, ((q.set i (.fz x)).set j (.fz y)).set l (.fz z) = Q x y z) (hr : ∀ x y z, ST (Q x y z) rest ok (k x y z)) : ST p (sSeq (sAsg e (gdTup 3 (gdCons (gdName i) (gdCons (gdName j) (gdCons (gdName l) gdNil))))) rest) ok (Ue β fun x => un3 x k) := fun ρ m => by
  rw [sAsg_seq]
  exact he.run ok _ _ (fun x ρ1 m1 => asg3_of hq (fun x y z ρ m => hr x y z ρ m) m1) ρ m
theorem st_asg4 {n : Nat} {k : D → D → D → D → FR β} {Q : D → D → D → D → Pat} (he : BC p q e Ue) (hq : ∀ x y z w, (((q.set i (.fz x)).set j (.fz y)).set l (.fz z)).set n (.fz w) = Q x y z w) (hr : ∀ x y z w, ST (Q x y z w) rest ok (k x y z w)) : ST p (sSeq (sAsg e (gdTup 4 (gdCons (gdName i) (gdCons (gdName j) (gdCons (gdName l) (gdCons (gdName n) gdNil)))))) rest) ok (Ue β fun x => un4 x k) := fun ρ m => by
  rw [sAsg_seq]
  exact he.run ok _ _ (fun x ρ1 m1 => asg4_of hq (fun x y z w ρ m => hr x y z w ρ m) m1) ρ m
/-! ends -/
theorem st_retG {f : D → β} (he : BC p q e Ue) (hok : ∀ v ρ, Mt q ρ → ok (.rt v ρ) (f v)) : ST p (sRet e) ok (Ue β fun v => .ok (f v)) := fun ρ m =>
  he.run ok _ _ (fun x ρ1 m1 => Ref.okk (hok x ρ1 m1)) ρ m
theorem st_retS {f : D → β} (he : BC p q e Ue) (hok : ∀ v ρ, Mt q ρ → ok (.rt v ρ) (f v)) : ST p (sSeq (sRet e) rest) ok (Ue β fun v => .ok (f v)) := fun ρ m => by
  unfold sSeq sRet; rw [bind_assoc]
  exact he.run ok _ _ (fun x ρ1 m1 => Ref.okk (hok x ρ1 m1)) ρ m
theorem st_roG {f : List D → β} (he : BC p q s Us) (hok : ∀ v ρ, Mt q ρ → ok (.ro v ρ) (f v)) : ST p (sRetO s) ok (Us β fun v => .ok (f v)) := fun ρ m =>
  he.run ok _ _ (fun x ρ1 m1 => Ref.okk (hok x ρ1 m1)) ρ m
theorem st_roS {f : List D → β} (he : BC p q s Us) (hok : ∀ v ρ, Mt q ρ → ok (.ro v ρ) (f v)) : ST p (sSeq (sRetO s) rest) ok (Us β fun v => .ok (f v)) := fun ρ m => by
  unfold sSeq sRetO; rw [bind_assoc]
  exact he.run ok _ _ (fun x ρ1 m1 => Ref.okk (hok x ρ1 m1)) ρ m
theorem st_raise {x : Str} : ST p (sRaise x) ok (.er x) := fun ρ m => ⟨ρ, rfl⟩
theorem st_raiseS {x : Str} : ST p (sSeq (sRaise x) rest) ok (.er x) := fun ρ m => ⟨ρ, rfl⟩
theorem st_end {c : β} (h : ∀ ρ, Mt p ρ → ok (.nx ρ) c) : ST p sNext ok (.ok c) := fun ρ m => ⟨_, rfl, h ρ m⟩
theorem st_bk {c : β} (h : ∀ ρ, Mt p ρ → ok (.bk ρ) c) : ST p sBk ok (.ok c) := fun ρ m => ⟨_, rfl, h ρ m⟩
theorem st_bkS {c : β} (h : ∀ ρ, Mt p ρ → ok (.bk ρ) c) : ST p (sSeq sBk rest) ok (.ok c) := fun ρ m => ⟨_, rfl, h ρ m⟩
theorem st_ct {c : β} (h : ∀ ρ, Mt p ρ → ok (.ct ρ) c) : ST p sCt ok (.ok c) := fun ρ m => ⟨_, rfl, h ρ m⟩
theorem st_ctS {c : β} (h : ∀ ρ, Mt p ρ → ok (.ct ρ) c) : ST p (sSeq sCt rest) ok (.ok c) := fun ρ m => ⟨_, rfl, h ρ m⟩
theorem okV_rt (v : D) (ρ : Rho) (_ : Mt q ρ) : okV (.rt v ρ) v := .inl ⟨ρ, rfl⟩
theorem okV_ro (v : List D) (ρ : Rho) (_ : Mt q ρ) : okV (.ro v ρ) (.lst v) := .inr ⟨v, ρ, rfl, rfl⟩
theorem okO_ro (v : List D) (ρ : Rho) (_ : Mt q ρ) : okO (.ro v ρ) v := ⟨ρ, rfl⟩
theorem okT_rt {t : List D} (h : q[0]? = some (.ow 0 t)) (v : D) (ρ : Rho) (m : Mt q ρ) : okT (.rt v ρ) (v, t) := ⟨ρ, rfl, by
  obtain ⟨c, e, hc⟩ := m.get h
  have hc : c = some (.ow 0 t) := hc
  cases ρ with
  | nil => simp at e
  | cons x ρ => simp at e; subst e; rw [hc]; rfl⟩
section
variable {σ : Type} {P : σ → Pat} {x : σ}
theorem okL_nx (w : WK p (P x)) (ρ : Rho) (m : Mt p ρ) : okL P ok (.nx ρ) (.nx x) := ⟨ρ, .inl rfl, w.mt m⟩
theorem okL_ct (w : WK p (P x)) (ρ : Rho) (m : Mt p ρ) : okL P ok (.ct ρ) (.nx x) := ⟨ρ, .inr rfl, w.mt m⟩
theorem okL_bk (w : WK p (P x)) (ρ : Rho) (m : Mt p ρ) : okL P ok (.bk ρ) (.bk x) := ⟨ρ, rfl, w.mt m⟩
theorem okL_rt {f : D → β} (h : ∀ v ρ, Mt q ρ → ok (.rt v ρ) (f v)) (v : D) (ρ : Rho) (m : Mt q ρ) : okL P ok (.rt v ρ) (.ret (f v)) := ⟨rfl, h v ρ m⟩
theorem okL_ro {f : List D → β} (h : ∀ v ρ, Mt q ρ → ok (.ro v ρ) (f v)) (v : List D) (ρ : Rho) (m : Mt q ρ) : okL P ok (.ro v ρ) (.ret (f v)) := ⟨rfl, h v ρ m⟩
theorem okN_nx (w : WK p (P x)) (ρ : Rho) (m : Mt p ρ) : okN P (.nx ρ) x := ⟨ρ, .inl rfl, w.mt m⟩
theorem okN_ct (w : WK p (P x)) (ρ : Rho) (m : Mt p ρ) : okN P (.ct ρ) x := ⟨ρ, .inr rfl, w.mt m⟩
theorem okF_nx (w : WK p r) (ρ : Rho) (m : Mt p ρ) : okF r ok (.nx ρ) none := ⟨ρ, .inl rfl, w.mt m⟩
theorem okF_ct (w : WK p r) (ρ : Rho) (m : Mt p ρ) : okF r ok (.ct ρ) none := ⟨ρ, .inr rfl, w.mt m⟩
theorem okF_rt {f : D → β} (h : ∀ v ρ, Mt q ρ → ok (.rt v ρ) (f v)) (v : D) (ρ : Rho) (m : Mt q ρ) : okF r ok (.rt v ρ) (some (f v)) := ⟨rfl, h v ρ m⟩
theorem okF_ro {f : List D → β} (h : ∀ v ρ, Mt q ρ → ok (.ro v ρ) (f v)) (v : List D) (ρ : Rho) (m : Mt q ρ) : okF r ok (.ro v ρ) (some (f v)) := ⟨rfl, h v ρ m⟩
end
theorem sSeq_next (s : SD) : sSeq s sNext = s := by
  funext ρ; unfold sSeq
  cases s ρ with
  | ok f => cases f <;> rfl
  | er => rfl
  | bad => rfl
theorem st_last (h : ST p (sSeq st sNext) ok u) : ST p st ok u := by rwa [sSeq_next] at h
theorem sSeq_assoc (a b c : SD) : sSeq (sSeq a b) c = sSeq a (sSeq b c) := by
  funext ρ; unfold sSeq
  cases a ρ with
  | ok f => cases f <;> rfl
  | er => rfl
  | bad => rfl
theorem st_seq (h : ST p (sSeq st (sSeq su rest)) ok u) : ST p (sSeq (sSeq st su) rest) ok u := by rwa [sSeq_assoc]
theorem st_nxt (h : ST p rest ok u) : ST p (sSeq sNext rest) ok u := h
theorem st_weak (w : WK p q) (h : ST q st ok u) : ST p st ok u := fun ρ m => h ρ (w.mt m)
theorem sIf_seq (c : TD) (a b rest : SD) : sSeq (sIf c a b) rest = sIf c (sSeq a rest) (sSeq b rest) := by
  funext ρ; unfold sSeq sIf; rw [bind_assoc]; congr 1; funext p
  by_cases h : p.1 = true
  · rw [if_pos h, if_pos h]
  · rw [if_neg h, if_neg h]
theorem st_if0 (hc : BC p q tt Ut) (ha : ST q st ok u) (hb : ST q su ok v) : ST p (sIf tt st su) ok (Ut β fun x => bif x then u else v) := fun ρ m => by
  unfold sIf
  refine hc.run ok _ _ (fun x ρ1 m1 => ?_) ρ m
  cases x with
  | true => exact ha ρ1 m1
  | false => exact hb ρ1 m1
theorem st_if (hc : BC p q tt Ut) (ha : ST q (sSeq st rest) ok u) (hb : ST q (sSeq su rest) ok v) : ST p (sSeq (sIf tt st su) rest) ok (Ut β fun x => bif x then u else v) := by
  rw [sIf_seq]; exact st_if0 hc ha hb
/-- if c: x = e -/
theorem st_ifset {k : D → FR β} {Q : D → Pat} (hx : q[i]? = some (.fz d)) (hc : BC p q tt Ut) (he : BC q q e Ue) (hq : ∀ v, q.set i (.fz v) = Q v) (hr : ∀ v, ST (Q v) rest ok (k v)) : ST p (sSeq (sIf tt (sSet i e) sNext) rest) ok (Ut β fun x => FR.bind (bif x then Ue D .ok else .ok d) k) := by
  rw [sIf_seq]
  intro ρ m
  unfold sIf
  refine hc.run ok _ _ (fun x ρ1 m1 => ?_) ρ m
  cases x with
  | true =>
    unfold sSeq sSet; dsimp only; rw [if_pos rfl, bind_assoc]
    exact Ref.seq (he.one ρ1 m1) fun v ρ2 m2 => hr v _ (hq v ▸ m2.set i (c := .fz v) rfl)
  | false =>
    have e2 : Q d = q := by
      rw [← hq d]
      apply List.ext_getElem?; intro j
      by_cases hj : i = j
      · subst hj; rw [List.getElem?_set_self (List.getElem?_eq_some_iff.mp hx).1, hx]
      · rw [List.getElem?_set_ne hj]
    exact hr d ρ1 (e2 ▸ m1)
/-! lists, dicts of slots -/
theorem st_app {t : Nat} {xs ys : List D} {k : List D → FR β} {Q : List D → Pat} (h : p[i]? = some (.ow t xs)) (he : BC p q e Ue) (h' : q[i]? = some (.ow t ys)) (hq : ∀ v, q.set i (.ow t v) = Q v) (hr : ∀ v, ST (Q v) rest ok (k v)) : ST p (sSeq (sApp i e) rest) ok (Ue β fun v => (appU ys v).bind k) := fun ρ m => by
  unfold sSeq sApp; rw [m.owAt h]; dsimp only; rw [bind_assoc]
  refine he.run ok _ _ (fun x ρ1 m1 => ?_) ρ m
  dsimp only
  rw [m1.owAt h']; dsimp only
  unfold appU
  split
  · exact hr _ _ (hq _ ▸ m1.set i (c := .ow t _) rfl)
  · trivial
theorem st_ext {t : Nat} {xs ys : List D} {k : List D → FR β} {Q : List D → Pat} (h : p[i]? = some (.ow t xs)) (he : BC p q e Ue) (h' : q[i]? = some (.ow t ys)) (hq : ∀ v, q.set i (.ow t v) = Q v) (hr : ∀ v, ST (Q v) rest ok (k v)) : ST p (sSeq (sExt i e) rest) ok (Ue β fun v => (extU ys v).bind k) := fun ρ m => by
  unfold sSeq sExt; rw [m.owAt h]; dsimp only; rw [bind_assoc]
  refine he.run ok _ _ (fun x ρ1 m1 => ?_) ρ m
  dsimp only
  rw [m1.owAt h']
  unfold extU
  cases x with
  | lst z =>
    dsimp only
    split
    · exact hr _ _ (hq _ ▸ m1.set i (c := .ow t _) rfl)
    · trivial
  | _ => trivial
theorem st_put {ix : ED} {t : Nat} {xs ys : List D} {k : List D → FR β} {Q : List D → Pat} (he : BC p q e Ue) (h : q[i]? = some (.ow t xs)) (hk : BC q r ix Uk) (h' : r[i]? = some (.ow t ys)) (hq : ∀ v, r.set i (.ow t v) = Q v) (hr : ∀ v, ST (Q v) rest ok (k v)) : ST p (sSeq (sPutL i ix e) rest) ok (Ue β fun v => Uk β fun x => (putU ys x v).bind k) := fun ρ m => by
  unfold sSeq sPutL; rw [bind_assoc]
  refine he.run ok _ _ (fun x ρ1 m1 => ?_) ρ m
  dsimp only
  rw [m1.owAt h]; dsimp only; rw [bind_assoc]
  refine hk.run ok _ _ (fun y ρ2 m2 => ?_) ρ1 m1
  dsimp only
  rw [m2.owAt h']
  unfold putU
  cases y with
  | int n =>
    dsimp only
    cases ixN ys.length n with
    | some j => exact hr _ _ (hq _ ▸ m2.set i (c := .ow t _) rfl)
    | none => trivial
  | _ => trivial
theorem st_putD {ix : ED} {xs ys : List (List Int × D)} {k : List (List Int × D) → FR β} {Q : List (List Int × D) → Pat} (he : BC p q e Ue) (h : q[i]? = some (.od xs)) (hk : BC q r ix Uk) (h' : r[i]? = some (.od ys)) (hq : ∀ v, r.set i (.od v) = Q v) (hr : ∀ v, ST (Q v) rest ok (k v)) : ST p (sSeq (sPutD i ix e) rest) ok (Ue β fun v => Uk β fun x => (putDU ys x v).bind k) := fun ρ m => by
  unfold sSeq sPutD; rw [bind_assoc]
  refine he.run ok _ _ (fun x ρ1 m1 => ?_) ρ m
  dsimp only
  rw [m1.odAt h]; dsimp only; rw [bind_assoc]
  refine hk.run ok _ _ (fun y ρ2 m2 => ?_) ρ1 m1
  dsimp only
  rw [m2.odAt h']
  unfold putDU
  cases keyD y with
  | some kk =>
    dsimp only
    split
    · exact hr _ _ (hq _ ▸ m2.set i (c := .od _) rfl)
    · trivial
  | none => trivial
theorem st_aug {k : D → FR β} {Q : D → Pat} (h : p[i]? = some (.fz d)) (he : BC p q e Ue) (hq : ∀ v, q.set i (.fz v) = Q v) (hr : ∀ v, ST (Q v) rest ok (k v)) : ST p (sSeq (sAug i e) rest) ok (intU d fun n => Ue β fun v => intU v fun m => k (.int (n + m))) := fun ρ m => by
  obtain ⟨c, e1, hc⟩ := m.get h
  have hc : c = some (.fz d) := hc
  unfold sSeq sAug; rw [e1, hc]
  cases d with
  | int n =>
    dsimp only; rw [bind_assoc]
    refine he.run ok _ _ (fun x ρ1 m1 => ?_) ρ m
    cases x with
    | int z => exact hr _ _ (hq _ ▸ m1.set i (c := .fz _) rfl)
    | _ => trivial
  | _ => trivial
/-! try: x = f(..) except E as err: y = v -/
def tryX (o : Option D) (x : D) : D := o.getD x
def tryY (o : Option D) (y v : D) : D := match o with
  | some _ => y
  | none => v
@[simp] theorem tryX_some (r x : D) : tryX (some r) x = r := rfl
@[simp] theorem tryX_none (x : D) : tryX none x = x := rfl
@[simp] theorem tryY_some (r y v : D) : tryY (some r) y v = y := rfl
@[simp] theorem tryY_none (y v : D) : tryY none y v = v := rfl
def PA (p q : Pat) (s : AD) (xs : List D) : Prop := ∀ ρ, Mt p ρ → ∃ ρ', s ρ = .ok (xs, ρ') ∧ Mt q ρ'
def PE (p q : Pat) (e : ED) (x : D) : Prop := ∀ ρ, Mt p ρ → ∃ ρ', e ρ = .ok (x, ρ') ∧ Mt q ρ'
theorem pa_nil : PA p p aNil [] := fun ρ m => ⟨ρ, rfl, m⟩
theorem pa_cons {x : D} {xs : List D} (h : PE p q a x) (hs : PA q r s xs) : PA p r (aCons a s) (x :: xs) := fun ρ m => by
  obtain ⟨ρ1, e1, m1⟩ := h ρ m
  obtain ⟨ρ2, e2, m2⟩ := hs ρ1 m1
  exact ⟨ρ2, by unfold aCons; rw [e1]; show Res.bind (s ρ1) _ = _; rw [e2]; rfl, m2⟩
theorem pe_of {x : D} (h : BC p q a (fun _ k => k x)) : PE p q a x := fun ρ m => by
  obtain ⟨g, e, h1, h2⟩ := h.one ρ m
  obtain ⟨y, ρ'⟩ := g
  have h1 : y = x := h1
  subst h1
  exact ⟨ρ', e, h2⟩
theorem st_try {F : FF} {UF : List D → FR D} {z : Str} {v x0 y0 : D} {xs : List D} {k : D → D → FR β} {Q : D → D → Pat} (hF : ∀ xs, RefF (F xs) (UF xs)) (hs : PA p q s xs) (hi : q[i]? = some .un) (hx : q[l]? = some (.fz x0)) (hy : q[j]? = some (.fz y0)) (hij : i ≠ j) (hlj : l ≠ j)
    (hq : ∀ x y, (q.set l (.fz x)).set j (.fz y) = Q x y) (hr : ∀ x y, ST (Q x y) rest ok (k x y)) : ST p (sSeq (sTry i j z v (sSet l (dCall F s))) rest) ok ((tryU (UF xs) z).bind fun o => k (tryX o x0) (tryY o y0 v)) := fun ρ m => by
  obtain ⟨ρ1, e1, m1⟩ := hs ρ m
  have hb := hF xs
  have keep : ∀ {n : Nat} {c : PC} {p : Pat}, p[n]? = some c → p.set n c = p := fun {n c p} h => by
    apply List.ext_getElem?; intro j
    by_cases hj : n = j
    · subst hj; rw [List.getElem?_set_self (List.getElem?_eq_some_iff.mp h).1, h]
    · rw [List.getElem?_set_ne hj]
  have ev : ∀ r, (F xs = .ok (.val r) ∨ ∃ l, r = .lst l ∧ F xs = .ok (.own l)) → sSet l (dCall F s) ρ = .ok (.nx (ρ1.set l (some (.fz r)))) := fun r h => by
    unfold sSet dCall; rw [e1]
    show Res.bind (match F xs with | .ok (.val r) => Res.ok (r, ρ1) | .ok (.own l) => .ok (.lst l, ρ1) | .er e => .er e ρ1 | .bad => .bad) _ = _
    rcases h with h | ⟨l', rfl, h⟩ <;> rw [h] <;> rfl
  cases hu : UF xs with
  | ok r =>
    rw [hu] at hb
    have h := ev r hb
    unfold sSeq sTry; rw [h]
    show Ref ok (rest (ρ1.set l (some (.fz r)))) (k r y0)
    refine hr r y0 _ ?_
    have m2 := m1.set l (c := .fz r) (b := some (.fz r)) rfl
    have hy2 : (q.set l (.fz r))[j]? = some (.fz y0) := by rw [List.getElem?_set_ne hlj]; exact hy
    rw [← hq, keep hy2]; exact m2
  | er e =>
    rw [hu] at hb
    have hb : F xs = .er e := hb
    have h : sSet l (dCall F s) ρ = .er e ρ1 := by
      unfold sSet dCall; rw [e1]
      show Res.bind (match F xs with | .ok (.val r) => Res.ok (r, ρ1) | .ok (.own l) => .ok (.lst l, ρ1) | .er e => .er e ρ1 | .bad => .bad) _ = _
      rw [hb]; rfl
    unfold sSeq sTry; rw [h]; unfold tryU; dsimp only
    by_cases hez : e = z
    · have il : i < ρ1.length := by rw [← m1.len]; exact (List.getElem?_eq_some_iff.mp hi).1
      rw [if_pos ⟨hez, il, hij⟩, if_pos hez]
      show Ref ok (rest ((ρ1.set i none).set j (some (.fz v)))) (k x0 v)
      refine hr x0 v _ ?_
      rw [← hq, keep hx]
      have m2 := (m1.set i (c := .un) (b := none) rfl)
      rw [keep hi] at m2
      exact m2.set j (c := .fz v) rfl
    · rw [if_neg (fun h => hez h.1), if_neg hez]
      trivial
  | bad => trivial
/-! loops -/
variable {g : GD} {body : SD} {σ : Type} {P : σ → Pat} {s0 : σ}
theorem forGo_ref {ub : D → σ → FR (Lo σ β)} (hb : ∀ x s ρ, Mt (P s) ρ → Ref (okL P ok) ((g x ρ).bind body) (ub x s)) : ∀ (items : List D) (s : σ) (ρ : Rho), Mt (P s) ρ → Ref (fun (f : Fl) (o : σ ⊕ β) => match o with
    | .inl s => ∃ ρ, f = .nx ρ ∧ Mt (P s) ρ
    | .inr b => isRet f = true ∧ ok f b) (forGo g body items ρ) (forU ub items s)
  | [], s, ρ, m => ⟨_, rfl, ρ, rfl, m⟩
  | x :: xs, s, ρ, m => by
    unfold forGo forU
    rw [← bind_assoc]
    refine Ref.bind (hb x s ρ m) fun f a hf => ?_
    cases a with
    | nx s' =>
      obtain ⟨ρ', h1, m'⟩ := hf
      have ih := forGo_ref hb xs s' ρ' m'
      rcases h1 with rfl | rfl <;> exact ih
    | bk s' =>
      obtain ⟨ρ', rfl, m'⟩ := hf
      exact ⟨_, rfl, ρ', rfl, m'⟩
    | ret b =>
      obtain ⟨h1, h2⟩ := hf
      cases f with
      | rt v ρ' => exact ⟨_, rfl, h1, h2⟩
      | ro v ρ' => exact ⟨_, rfl, h1, h2⟩
      | nx => cases h1
      | bk => cases h1
      | ct => cases h1
theorem Ref.after {r : Res Fl} {u : FR (σ ⊕ β)} {k : σ → FR β} (h : Ref (fun (f : Fl) (o : σ ⊕ β) => match o with
    | .inl s => ∃ ρ, f = .nx ρ ∧ Mt (P s) ρ
    | .inr b => isRet f = true ∧ ok f b) r u) (hr : ∀ s, ST (P s) rest ok (k s)) : Ref ok (r.bind fun f => match f with
    | .nx ρ' => rest ρ'
    | o => .ok o) (aftU u k) := by
  refine Ref.bind h fun f o hf => ?_
  cases o with
  | inl s => obtain ⟨ρ', rfl, m'⟩ := hf; exact hr s ρ' m'
  | inr b =>
    obtain ⟨h1, h2⟩ := hf
    cases f with
    | rt v ρ' => exact ⟨_, rfl, h2⟩
    | ro v ρ' => exact ⟨_, rfl, h2⟩
    | nx => cases h1
    | bk => cases h1
    | ct => cases h1
theorem st_for {ub : D → σ → FR (Lo σ β)} {k : σ → FR β} (hi : BC p q it Ui) (w : WK q (P s0)) (hb : ∀ x s ρ, Mt (P s) ρ → Ref (okL P ok) ((g x ρ).bind body) (ub x s)) (hr : ∀ s, ST (P s) rest ok (k s)) : ST p (sSeq (sFor it g body) rest) ok (Ui β fun items => aftU (forU ub items s0) k) := fun ρ m => by
  unfold sSeq sFor; rw [bind_assoc]
  exact hi.run ok _ _ (fun items ρ1 m1 => Ref.after (forGo_ref hb items s0 ρ1 (w.mt m1)) hr) ρ m
theorem forGo_fold_ref {ub : D → σ → FR σ} (hb : ∀ x s ρ, Mt (P s) ρ → Ref (okN P) ((g x ρ).bind body) (ub x s)) : ∀ (items : List D) (s : σ) (ρ : Rho), Mt (P s) ρ → Ref (fun (f : Fl) (s : σ) => ∃ ρ, f = .nx ρ ∧ Mt (P s) ρ) (forGo g body items ρ) (foldU ub items s)
  | [], s, ρ, m => ⟨_, rfl, ρ, rfl, m⟩
  | x :: xs, s, ρ, m => by
    unfold forGo foldU
    rw [← bind_assoc]
    refine Ref.bind (hb x s ρ m) fun f a hf => ?_
    obtain ⟨ρ', h1, m'⟩ := hf
    have ih := forGo_fold_ref hb xs a ρ' m'
    rcases h1 with rfl | rfl <;> exact ih
theorem st_fold {ub : D → σ → FR σ} {k : σ → FR β} (hi : BC p q it Ui) (w : WK q (P s0)) (hb : ∀ x s ρ, Mt (P s) ρ → Ref (okN P) ((g x ρ).bind body) (ub x s)) (hr : ∀ s, ST (P s) rest ok (k s)) : ST p (sSeq (sFor it g body) rest) ok (Ui β fun items => (foldU ub items s0).bind k) := fun ρ m => by
  unfold sSeq sFor; rw [bind_assoc]
  exact hi.run ok _ _ (fun items ρ1 m1 => Ref.bind (forGo_fold_ref hb items s0 ρ1 (w.mt m1)) fun f s hf => by obtain ⟨ρ', rfl, m'⟩ := hf; exact hr s ρ' m') ρ m
theorem forGo_find_ref {ub : D → FR (Option β)} (hb : ∀ x ρ, Mt r ρ → Ref (okF r ok) ((g x ρ).bind body) (ub x)) : ∀ (items : List D) (ρ : Rho), Mt r ρ → Ref (fun (f : Fl) (o : Option β) => match o with
    | none => ∃ ρ, f = .nx ρ ∧ Mt r ρ
    | some b => isRet f = true ∧ ok f b) (forGo g body items ρ) (findU ub items)
  | [], ρ, m => ⟨_, rfl, ρ, rfl, m⟩
  | x :: xs, ρ, m => by
    unfold forGo findU
    rw [← bind_assoc]
    refine Ref.bind (hb x ρ m) fun f a hf => ?_
    cases a with
    | none =>
      obtain ⟨ρ', h1, m'⟩ := hf
      have ih := forGo_find_ref hb xs ρ' m'
      rcases h1 with rfl | rfl <;> exact ih
    | some b =>
      obtain ⟨h1, h2⟩ := hf
      cases f with
      | rt v ρ' => exact ⟨_, rfl, h1, h2⟩
      | ro v ρ' => exact ⟨_, rfl, h1, h2⟩
      | nx => cases h1
      | bk => cases h1
      | ct => cases h1
theorem st_find {ub : D → FR (Option β)} (hi : BC p q it Ui) (w : WK q r) (hb : ∀ x ρ, Mt r ρ → Ref (okF r ok) ((g x ρ).bind body) (ub x)) (hr : ST r rest ok u) : ST p (sSeq (sFor it g body) rest) ok (Ui β fun items => (findU ub items).els u) := fun ρ m => by
  unfold sSeq sFor; rw [bind_assoc]
  refine hi.run ok _ _ (fun items ρ1 m1 => ?_) ρ m
  have h := forGo_find_ref hb items ρ1 (w.mt m1)
  dsimp only
  cases e : findU ub items with
  | ok o =>
    rw [e] at h
    obtain ⟨f, e1, hf⟩ := h
    rw [e1]
    cases o with
    | none => obtain ⟨ρ', rfl, m'⟩ := hf; exact hr ρ' m'
    | some b =>
      obtain ⟨h1, h2⟩ := hf
      cases f with
      | rt v ρ' => exact ⟨_, rfl, h2⟩
      | ro v ρ' => exact ⟨_, rfl, h2⟩
      | nx => cases h1
      | bk => cases h1
      | ct => cases h1
  | er x => rw [e] at h; obtain ⟨ρ', e1⟩ := h; rw [e1]; exact ⟨_, rfl⟩
  | bad => trivial
theorem whileGo_ref {c : TD} {uw : σ → FR (Lo σ β)} (hb : ∀ s, ST (P s) (sIf c body sBk) (okL P ok) (uw s)) : ∀ (n : Nat) (s : σ) (ρ : Rho), Mt (P s) ρ → Ref (fun (f : Fl) (o : σ ⊕ β) => match o with
    | .inl s => ∃ ρ, f = .nx ρ ∧ Mt (P s) ρ
    | .inr b => isRet f = true ∧ ok f b) (whileGo c body n ρ) (whileU uw n s)
  | 0, s, ρ, m => trivial
  | n + 1, s, ρ, m => by
    have h := hb s ρ m
    unfold whileU
    have e : whileGo c body (n + 1) ρ = (sIf c body sBk ρ).bind fun f => match f with
      | .nx ρ2 => whileGo c body n ρ2
      | .ct ρ2 => whileGo c body n ρ2
      | .bk ρ2 => .ok (.nx ρ2)
      | o => .ok o := by
      unfold sIf
      rw [bind_assoc]
      conv => lhs; unfold whileGo
      congr 1; funext p
      by_cases hp : p.1 = true
      · first
          | (rw [if_pos hp, if_pos hp]; done)
          | (rw [if_pos hp, if_pos hp]; congr 1)
      · rw [if_neg hp, if_neg hp]; rfl
    rw [e]
    refine Ref.bind h fun f a hf => ?_
    cases a with
    | nx s' =>
      obtain ⟨ρ', h1, m'⟩ := hf
      have ih := whileGo_ref hb n s' ρ' m'
      rcases h1 with rfl | rfl <;> exact ih
    | bk s' =>
      obtain ⟨ρ', rfl, m'⟩ := hf
      exact ⟨_, rfl, ρ', rfl, m'⟩
    | ret b =>
      obtain ⟨h1, h2⟩ := hf
      cases f with
      | rt v ρ' => exact ⟨_, rfl, h1, h2⟩
      | ro v ρ' => exact ⟨_, rfl, h1, h2⟩
      | nx => cases h1
      | bk => cases h1
      | ct => cases h1
theorem st_while {n : Nat} {c : TD} {uw : σ → FR (Lo σ β)} {k : σ → FR β} (w : WK p (P s0)) (hb : ∀ s, ST (P s) (sIf c body sBk) (okL P ok) (uw s)) (hr : ∀ s, ST (P s) rest ok (k s)) : ST p (sSeq (sWhile n c body) rest) ok (aftU (whileU uw n s0) k) := fun ρ m => by
  unfold sSeq sWhile
  exact Ref.after (whileGo_ref hb n s0 ρ (w.mt m)) hr
/-! targets of loops -/
theorem tg_name {α : Type} {ok : Fl → α → Prop} {ub : D → FR α} {Q : D → Pat} (hq : ∀ x, p.set i (.fz x) = Q x) (h : ∀ x, ST (Q x) body ok (ub x)) (x : D) (ρ : Rho) (m : Mt p ρ) : Ref ok ((gdName i x ρ).bind body) (ub x) := h x _ (hq x ▸ m.set i (c := .fz x) rfl)
theorem tg_tup2 {α : Type} {ok : Fl → α → Prop} {ub : D → D → FR α} {Q : D → D → Pat} (hq : ∀ x y, (p.set i (.fz x)).set j (.fz y) = Q x y) (h : ∀ x y, ST (Q x y) body ok (ub x y)) (x : D) (ρ : Rho) (m : Mt p ρ) : Ref ok ((gdTup 2 (gdCons (gdName i) (gdCons (gdName j) gdNil)) x ρ).bind body) (un2 x ub) := by
  unfold un2
  split
  · exact h _ _ _ (hq _ _ ▸ (m.set i (c := .fz _) rfl).set j (c := .fz _) rfl)
  · trivial
theorem tg_tup3 {α : Type} {ok : Fl → α → Prop} {ub : D → D → D → FR α} {Q : D → D → D → Pat} (hq : ∀ x y z, ((p.set i (.fz x)).set j (.fz y)).set l (.fz z) = Q x y z) (h : ∀ x y z, ST (Q x y z) body ok (ub x y z)) (x : D) (ρ : Rho) (m : Mt p ρ) : Ref ok ((gdTup 3 (gdCons (gdName i) (gdCons (gdName j) (gdCons (gdName l) gdNil))) x ρ).bind body) (un3 x ub) := by
  unfold un3
  split
  · exact h _ _ _ _ (hq _ _ _ ▸ ((m.set i (c := .fz _) rfl).set j (c := .fz _) rfl).set l (c := .fz _) rfl)
  · trivial
end
/-! statements that draw -/
section
variable {β : Type} {ok : Fl → β → Prop} {P Q R : List D → Pat} {a b e : ED} {o s : AD} {tt : TD} {st su rest : SD} {i j l : Nat} {it : ID} {t : List D}
variable {Ue : (β : Type) → (D → List D → FR β) → List D → FR β} {Us Ui : (β : Type) → (List D → List D → FR β) → List D → FR β} {Ut : (β : Type) → (Bool → List D → FR β) → List D → FR β}
theorem stT_set {k : D → List D → FR β} {Q' : D → List D → Pat} (he : BT P Q e Ue) (hq : ∀ v t, (Q t).set i (.fz v) = Q' v t) (hr : ∀ v t, ST (Q' v t) rest ok (k v t)) : ST (P t) (sSeq (sSet i e) rest) ok (Ue β k t) := fun ρ m => by
  unfold sSeq sSet; rw [bind_assoc]
  exact he.run ok _ _ (fun x t1 ρ1 m1 => hr x t1 _ (hq x t1 ▸ m1.set i (c := .fz x) rfl)) t ρ m
theorem stT_setO {k : List D → List D → FR β} {Q' : List D → List D → Pat} (he : BT P Q o Us) (hq : ∀ v t, (Q t).set i (.ow 1 v) = Q' v t) (hr : ∀ v t, ST (Q' v t) rest ok (k v t)) : ST (P t) (sSeq (sSetO i o) rest) ok (Us β k t) := fun ρ m => by
  unfold sSeq sSetO; rw [bind_assoc]
  exact he.run ok _ _ (fun x t1 ρ1 m1 => hr x t1 _ (hq x t1 ▸ m1.set i (c := .ow 1 x) rfl)) t ρ m
theorem stT_par {n : Nat} {k : D → D → List D → FR β} {Q' : D → D → List D → Pat} (he : BAT P Q s n Us) (hq : ∀ x y t, ((Q t).set i (.fz x)).set j (.fz y) = Q' x y t) (hr : ∀ x y t, ST (Q' x y t) rest ok (k x y t)) : ST (P t) (sSeq (sPar i j s) rest) ok (Us β (fun xs t => match xs with
    | [x, y] => k x y t
    | _ => .bad) t) := fun ρ m => by
  unfold sSeq sPar; rw [bind_assoc]
  refine he.run ok _ _ (fun x t1 ρ1 _ m1 => ?_) t ρ m
  rcases x with _ | ⟨x, _ | ⟨y, _ | ⟨z, w⟩⟩⟩
  · trivial
  · trivial
  · exact hr _ _ _ _ (hq _ _ _ ▸ (m1.set i (c := .fz _) rfl).set j (c := .fz _) rfl)
  · trivial
theorem stT_par3 {n : Nat} {k : D → D → D → List D → FR β} {Q' : D → D → D → List D → Pat} (he : BAT P Q s n Us) (hq : ∀ x y z t, (((Q t).set i (.fz x)).set j (.fz y)).set l (.fz z) = Q' x y z t) (hr : ∀ x y z t, ST (Q' x y z t) rest ok (k x y z t)) : ST (P t) (sSeq (sPar3 i j l s) rest) ok (Us β (fun xs t => match xs with
    | [x, y, z] => k x y z t
    | _ => .bad) t) := fun ρ m => by
  unfold sSeq sPar3; rw [bind_assoc]
  refine he.run ok _ _ (fun x t1 ρ1 _ m1 => ?_) t ρ m
  rcases x with _ | ⟨x, _ | ⟨y, _ | ⟨z, _ | ⟨w, w'⟩⟩⟩⟩
  · trivial
  · trivial
  · trivial
  · exact hr _ _ _ _ _ (hq _ _ _ _ ▸ ((m1.set i (c := .fz _) rfl).set j (c := .fz _) rfl).set l (c := .fz _) rfl)
  · trivial
theorem stT_asg1 {k : D → List D → FR β} {Q' : D → List D → Pat} (he : BT P Q e Ue) (hq : ∀ v t, (Q t).set i (.fz v) = Q' v t) (hr : ∀ v t, ST (Q' v t) rest ok (k v t)) : ST (P t) (sSeq (sAsg e (gdName i)) rest) ok (Ue β k t) := fun ρ m => by
  rw [sAsg_seq]
  exact he.run ok _ _ (fun x t1 ρ1 m1 => hr x t1 _ (hq x t1 ▸ m1.set i (c := .fz x) rfl)) t ρ m
theorem stT_asg2 {k : D → D → List D → FR β} {Q' : D → D → List D → Pat} (he : BT P Q e Ue) (hq : ∀ x y t, ((Q t).set i (.fz x)).set j (.fz y) = Q' x y t) (hr : ∀ x y t, ST (Q' x y t) rest ok (k x y t)) : ST (P t) (sSeq (sAsg e (gdTup 2 (gdCons (gdName i) (gdCons (gdName j) gdNil)))) rest) ok (Ue β (fun x t => un2 x fun a b => k a b t) t) := fun ρ m => by
  rw [sAsg_seq]
  exact he.run ok _ _ (fun x t1 ρ1 m1 => asg2_of (ku := fun a b => k a b t1) (Q := fun a b => Q' a b t1) (fun x y => hq x y t1) (fun x y ρ m => hr x y t1 ρ m) m1) t ρ m
theorem stT_asg3 {k : D → D → D → List D → FR β} {Q' : D → D → D → List D → Pat} (he : BT P Q e Ue) (hq : ∀ x y z t, (((Q t).set i (.fz x)).set j (.fz y)).set l (.fz z) = Q' x y z t) (hr : ∀ x y z t, ST (Q' x y z t) rest ok (k x y z t)) : ST (P t) (sSeq (sAsg e (gdTup 3 (gdCons (gdName i) (gdCons (gdName j) (gdCons (gdName l) gdNil))))) rest) ok (Ue β (fun x t => un3 x fun a b c => k a b c t) t) := fun ρ m => by
  rw [sAsg_seq]
  exact he.run ok _ _ (fun x t1 ρ1 m1 => asg3_of (ku := fun a b c => k a b c t1) (Q := fun a b c => Q' a b c t1) (fun x y z => hq x y z t1) (fun x y z ρ m => hr x y z t1 ρ m) m1) t ρ m
theorem stT_retG {f : D → List D → β} (he : BT P Q e Ue) (hok : ∀ v t ρ, Mt (Q t) ρ → ok (.rt v ρ) (f v t)) : ST (P t) (sRet e) ok (Ue β (fun v t => .ok (f v t)) t) := fun ρ m =>
  he.run ok _ _ (fun x t1 ρ1 m1 => Ref.okk (hok x t1 ρ1 m1)) t ρ m
theorem stT_retS {f : D → List D → β} (he : BT P Q e Ue) (hok : ∀ v t ρ, Mt (Q t) ρ → ok (.rt v ρ) (f v t)) : ST (P t) (sSeq (sRet e) rest) ok (Ue β (fun v t => .ok (f v t)) t) := fun ρ m => by
  unfold sSeq sRet; rw [bind_assoc]
  exact he.run ok _ _ (fun x t1 ρ1 m1 => Ref.okk (hok x t1 ρ1 m1)) t ρ m
theorem stT_if {u v : List D → FR β} (hc : BT P Q tt Ut) (ha : ∀ t, ST (Q t) (sSeq st rest) ok (u t)) (hb : ∀ t, ST (Q t) (sSeq su rest) ok (v t)) : ST (P t) (sSeq (sIf tt st su) rest) ok (Ut β (fun x t => bif x then u t else v t) t) := by
  rw [sIf_seq]
  intro ρ m
  unfold sIf
  refine hc.run ok _ _ (fun x t1 ρ1 m1 => ?_) t ρ m
  cases x with
  | true => exact ha t1 ρ1 m1
  | false => exact hb t1 ρ1 m1
theorem stT_for {g : GD} {body : SD} {σ : Type} {S : σ → Pat} {s0 : List D → σ} {ub : D → σ → FR (Lo σ β)} {k : σ → FR β} (hi : BT P Q it Ui) (w : ∀ t, WK (Q t) (S (s0 t))) (hb : ∀ x s ρ, Mt (S s) ρ → Ref (okL S ok) ((g x ρ).bind body) (ub x s)) (hr : ∀ s, ST (S s) rest ok (k s)) : ST (P t) (sSeq (sFor it g body) rest) ok (Ui β (fun items t => aftU (forU ub items (s0 t)) k) t) := fun ρ m => by
  unfold sSeq sFor; rw [bind_assoc]
  exact hi.run ok _ _ (fun items t1 ρ1 m1 => Ref.after (forGo_ref hb items (s0 t1) ρ1 ((w t1).mt m1)) hr) t ρ m
theorem stT_fold {g : GD} {body : SD} {σ : Type} {S : σ → Pat} {s0 : List D → σ} {ub : D → σ → FR σ} {k : σ → FR β} (hi : BT P Q it Ui) (w : ∀ t, WK (Q t) (S (s0 t))) (hb : ∀ x s ρ, Mt (S s) ρ → Ref (okN S) ((g x ρ).bind body) (ub x s)) (hr : ∀ s, ST (S s) rest ok (k s)) : ST (P t) (sSeq (sFor it g body) rest) ok (Ui β (fun items t => (foldU ub items (s0 t)).bind k) t) := fun ρ m => by
  unfold sSeq sFor; rw [bind_assoc]
  exact hi.run ok _ _ (fun items t1 ρ1 m1 => Ref.bind (forGo_fold_ref hb items (s0 t1) ρ1 ((w t1).mt m1)) fun f s hf => by obtain ⟨ρ', rfl, m'⟩ := hf; exact hr s ρ' m') t ρ m
end
/-! bodies -/
theorem ru_V {n m : Nat} {dd : SD} {ds : List D} {p : Pat} {u : FR D} (hl : ds.length = m) (hp : (ds.map (fun x => some (B.fz x)) ++ List.replicate (n - m) none).map PC.is = p) (h : ST p dd okV u) : RefF (runP n m dd ds) u := by
  have := h _ (hp ▸ Mt.self _)
  unfold runP; rw [if_pos hl]
  cases u with
  | ok a =>
    obtain ⟨f, e, hf⟩ := this
    rw [e]
    rcases hf with ⟨ρ, rfl⟩ | ⟨l, ρ, rfl, rfl⟩
    · exact .inl rfl
    · exact .inr ⟨l, rfl, rfl⟩
  | er x => obtain ⟨ρ, e⟩ := this; rw [e]; rfl
  | bad => trivial
theorem ru_O {n m : Nat} {dd : SD} {ds : List D} {p : Pat} {u : FR (List D)} (hl : ds.length = m) (hp : (ds.map (fun x => some (B.fz x)) ++ List.replicate (n - m) none).map PC.is = p) (h : ST p dd okO u) : RefO (runP n m dd ds) u := by
  have := h _ (hp ▸ Mt.self _)
  unfold runP; rw [if_pos hl]
  cases u with
  | ok a =>
    obtain ⟨f, e, hf⟩ := this
    rw [e]
    obtain ⟨ρ, rfl⟩ := hf
    rfl
  | er x => obtain ⟨ρ, e⟩ := this; rw [e]; rfl
  | bad => trivial
theorem ru_T {n m : Nat} {dd : SD} {ts ds : List D} {p : Pat} {u : FR (D × List D)} (hl : ds.length + 1 = m) (hp : (some (.ow 0 ts) :: (ds.map (fun x => some (B.fz x)) ++ List.replicate (n - m) none)).map PC.is = p) (h : ST p dd okT u) : RefT (runT n m dd ts ds) u := by
  have := h _ (hp ▸ Mt.self _)
  unfold runT; rw [if_pos hl]
  cases u with
  | ok a =>
    obtain ⟨f, e, hf⟩ := this
    rw [e]
    obtain ⟨ρ, rfl, ho⟩ := hf
    dsimp only
    rw [ho]; rfl
  | er x => trivial
  | bad => trivial
end DL

set_option Elab.async false
set_option linter.all false
set_option maxRecDepth 100000
set_option maxHeartbeats 2000000
namespace WK
open PySem PySem.Spec PyProof.Rows L2 DL
def D__law_cells : SD := (sSeq (sSetO 2 (oOr (oCb listO (aCons (dSl (dVar 0) pNo (pSome (dVar 1))) aNil)) (oLst (aCons (dC (.int 0)) aNil))))
  (sSeq (sFor (iEn (aCons (dSl (dVar 0) (pSome (dVar 1)) (pSome (dC (.int 63)))) aNil)) (gdTup 2 (gdCons (gdName 3) (gdCons (gdName 4) gdNil))) (sSeq (sSet 5 (dOp modD (dCb intD (aCons (dVar 3) aNil)) (dVar 1)))
  (sPutL 2 (dVar 5) (dOp addD (dIxV 2 (dVar 5)) (dOp mulD (dVar 4) (dOp addD (dVar 3) (dC (.int 2))))))))
  (sRet (dVar 2))))
abbrev F__law_cells : FF := runP 6 2 D__law_cells
def D__law_shared : SD := (sRet (dCb tupD (aCons (dFz (oUn ssO (dFz (oLc (iSeq (dVar 0)) (gdName 2) (tBl (dOp inD (dVar 2) (dVar 1))) (dVar 2) [2])))) aNil)))
abbrev F__law_shared : FF := runP 3 2 D__law_shared
def D__law_common : SD := (sSeq (sPar 2 3 (aCons (dCb absD (aCons (dVar 0) aNil)) (aCons (dCb absD (aCons (dVar 1) aNil)) aNil)))
  (sSeq (sFor (iR1 (aCons (dC (.int 400)) aNil)) (gdName 4) (sSeq (sIf (tBl (dOp eqD (dVar 3) (dC (.int 0)))) (sRet (dVar 2)) sNext)
  (sPar 2 3 (aCons (dVar 3) (aCons (dOp subD (dVar 2) (dOp mulD (dOp fdivD (dVar 2) (dVar 3)) (dVar 3))) aNil)))))
  (sRet (dC .non))))
abbrev F__law_common : FF := runP 5 2 D__law_common
def D__law_round : SD := (sRet (dOp mulD (dOp fdivD (dCb lenD (aCons (dVar 0) aNil)) (dCall F__law_common (aCons (dCb lenD (aCons (dVar 0) aNil)) (aCons (dCb lenD (aCons (dVar 1) aNil)) aNil)))) (dCb lenD (aCons (dVar 1) aNil))))
abbrev F__law_round : FF := runP 2 2 D__law_round
def D__law_spot : SD := (sRet (dOp subD (dVar 0) (dOp mulD (dOp fdivD (dVar 0) (dVar 1)) (dVar 1))))
abbrev F__law_spot : FF := runP 2 2 D__law_spot
def D__law_time : SD := (sSeq (sFor (iR1 (aCons (dCall F__law_round (aCons (dVar 0) (aCons (dVar 1) aNil))) aNil)) (gdName 5) (sSeq (sSet 6 (dOp idxD (dVar 0) (dCall F__law_spot (aCons (dOp addD (dVar 2) (dVar 5)) (aCons (dCb lenD (aCons (dVar 0) aNil)) aNil)))))
  (sIf (tAn (tBl (dOp eqD (dVar 6) (dOp idxD (dVar 1) (dCall F__law_spot (aCons (dOp addD (dVar 3) (dVar 5)) (aCons (dCb lenD (aCons (dVar 1) aNil)) aNil)))))) (tOR (tBl (dOp eqD (dVar 4) (dUn negD (dC (.int 1))))) (tBl (dOp eqD (dVar 6) (dVar 4))))) (sRet (dOp addD (dVar 5) (dC (.int 1)))) sNext)))
  (sRet (dC .non)))
abbrev F__law_time : FF := runP 7 5 D__law_time
def D__law_times : SD := (sSeq (sSetO 3 (oLst aNil))
  (sSeq (sFor (iR1 (aCons (dCb lenD (aCons (dVar 0) aNil)) aNil)) (gdName 4) (sExt 3 (dFz (oLc (iR1 (aCons (dCb lenD (aCons (dVar 1) aNil)) aNil)) (gdName 5) tdYes (dTup (aCons (dTup (aCons (dVar 4) (aCons (dVar 5) aNil))) (aCons (dCall F__law_time (aCons (dVar 0) (aCons (dVar 1) (aCons (dVar 4) (aCons (dVar 5) (aCons (dVar 2) aNil)))))) aNil))) [5]))))
  (sRet (dVar 3))))
abbrev F__law_times : FF := runP 6 3 D__law_times
def D__law_worst : SD := (sSeq (sSet 3 (dCall F__law_times (aCons (dVar 0) (aCons (dVar 1) (aCons (dVar 2) aNil)))))
  (sSeq (sSet 4 (dFz (oLc (iSeq (dVar 3)) (gdName 6) (tBl (dOp isN (dOp idxD (dVar 6) (dC (.int 1))) (dC .non))) (dOp idxD (dVar 6) (dC (.int 0))) [6])))
  (sSeq (sIf (tBl (dOp neD (dVar 4) (dFz (oLst aNil)))) (sRet (dTup (aCons (dC .non) (aCons (dOp idxD (dVar 4) (dC (.int 0))) aNil)))) sNext)
  (sSeq (sSet 5 (dCb maxL (aCons (dFz (oLc (iSeq (dVar 3)) (gdName 6) tdYes (dOp idxD (dVar 6) (dC (.int 1))) [6])) aNil)))
  (sRet (dTup (aCons (dVar 5) (aCons (dOp idxD (dFz (oLc (iSeq (dVar 3)) (gdName 6) (tBl (dOp eqD (dOp idxD (dVar 6) (dC (.int 1))) (dVar 5))) (dOp idxD (dVar 6) (dC (.int 0))) [6])) (dC (.int 0))) aNil))))))))
abbrev F__law_worst : FF := runP 7 3 D__law_worst
def D__law_channel_times : SD := (sRetO (oLc (iSeq (dCall F__law_shared (aCons (dVar 0) (aCons (dVar 1) aNil)))) (gdName 2) tdYes (dTup (aCons (dVar 2) (aCons (dOp idxD (dCall F__law_worst (aCons (dVar 0) (aCons (dVar 1) (aCons (dVar 2) aNil)))) (dC (.int 0))) aNil))) [2]))
abbrev F__law_channel_times : FF := runP 3 2 D__law_channel_times
def D__law_clock : SD := (sRet (dCb tupD (aCons (dFz (oLc (iR1 (aCons (dVar 0) aNil)) (gdName 3) tdYes (dOp modD (dOp addD (dVar 2) (dOp mulD (dVar 1) (dVar 3))) (dVar 0)) [3])) aNil)))
abbrev F__law_clock : FF := runP 4 3 D__law_clock
def D__law_common_b : SD := (sSeq (sFor (iR1 (aCons (dC (.int 200)) aNil)) (gdName 2) (sSeq (sIf (tBl (dOp eqD (dVar 1) (dC (.int 0)))) sBk sNext)
  (sPar 0 1 (aCons (dVar 1) (aCons (dOp modD (dVar 0) (dVar 1)) aNil)))))
  (sRet (dVar 0)))
abbrev F__law_common_b : FF := runP 3 2 D__law_common_b
def D__law_flat : SD := (sSeq (sSetO 1 (oLst aNil))
  (sSeq (sFor (iSeq (dVar 0)) (gdName 2) (sExt 1 (dVar 2)))
  (sRet (dVar 1))))
abbrev F__law_flat : FF := runP 3 1 D__law_flat
def D__law_fraction : SD := (sSeq (sSet 2 (dCall F__law_common (aCons (dVar 0) (aCons (dVar 1) aNil))))
  (sRet (dTup (aCons (dOp fdivD (dVar 0) (dVar 2)) (aCons (dOp fdivD (dVar 1) (dVar 2)) aNil)))))
abbrev F__law_fraction : FF := runP 3 2 D__law_fraction
def D__law_full : SD := (sSeq (sSet 2 (dFz (oLc (iSeq (dCall F__law_channel_times (aCons (dVar 0) (aCons (dVar 1) aNil)))) (gdName 3) tdYes (dOp idxD (dVar 3) (dC (.int 1))) [3])))
  (sRet (dIf (tOR (tBl (dOp eqD (dVar 2) (dFz (oLst aNil)))) (tBl (dOp inD (dC .non) (dVar 2)))) (dC .non) (dCb maxL (aCons (dVar 2) aNil)))))
abbrev F__law_full : FF := runP 4 2 D__law_full
def D__law_gaps : SD := (sSeq (sSetO 3 (oRep (oLst (aCons (dC (.int 0)) aNil)) (dVar 0)))
  (sSeq (sFor (iSeq (dVar 1)) (gdName 4) (sFor (iSeq (dVar 2)) (gdName 5) (sPutL 3 (dOp modD (dOp subD (dVar 4) (dVar 5)) (dVar 0)) (dOp addD (dIxV 3 (dOp modD (dOp subD (dVar 4) (dVar 5)) (dVar 0))) (dC (.int 1))))))
  (sRet (dVar 3))))
abbrev F__law_gaps : FF := runP 6 3 D__law_gaps
def D__law_take : SD := (sSeq (sIf (tBl (dOp gtD (dIxV 0 (dC (.int 0))) (dC (.int 0)))) (sSeq (sSet 2 (dOp modD (dCb intD (aCons (dIxV 0 (dC (.int 0))) aNil)) (dVar 1)))
  (sSeq (sPutL 0 (dC (.int 0)) (dOp fdivD (dIxV 0 (dC (.int 0))) (dVar 1)))
  (sRet (dVar 2)))) sNext)
  (sSeq (sPutL 0 (dC (.int 2)) (dOp addD (dIxV 0 (dC (.int 2))) (dC (.int 1))))
  (sSeq (sSet 3 (dOp modD (dCb intD (aCons (dOp mulD (dOp addD (dIxV 0 (dC (.int 1))) (dOp mulD (dC (.int 48271)) (dIxV 0 (dC (.int 2))))) (dOp addD (dC (.int 39373)) (dIxV 0 (dC (.int 2))))) aNil)) (dC (.int 2147483647))))
  (sSeq (sSet 4 (dOp addD (dOp modD (dCb intD (aCons (dVar 3) aNil)) (dC (.int 40009))) (dC (.int 7))))
  (sSeq (sSet 5 (dOp modD (dCb intD (aCons (dOp mulD (dOp addD (dOp addD (dVar 3) (dIxV 0 (dC (.int 2)))) (dOp fdivD (dIxV 0 (dC (.int 1))) (dC (.int 1000003)))) (dVar 4)) aNil)) (dC (.int 2147483629))))
  (sRet (dOp modD (dCb intD (aCons (dOp fdivD (dOp modD (dCb intD (aCons (dOp addD (dOp mulD (dVar 5) (dC (.int 48271))) (dVar 3)) aNil)) (dC (.int 2147483587))) (dC (.int 64))) aNil)) (dVar 1))))))))
abbrev F__law_take : FT := runT 6 2 D__law_take
def D__law_hops : SD := (sRet (dCb tupD (aCons (dFz (oLc (iR1 (aCons (dOp addD (dC (.int 1)) (dCallT F__law_take 0 (aCons (dVar 1) aNil))) aNil)) (gdName 3) tdYes (dCallT F__law_take 0 (aCons (dVar 2) aNil)) [3])) aNil)))
abbrev F__law_hops : FT := runT 4 3 D__law_hops
def D__law_is_int : SD := (sRet (dAnd (dUn (isD1 .int) (dVar 0)) (dUn notD (dUn (isD1 .bool) (dVar 0)))))
abbrev F__law_is_int : FF := runP 1 1 D__law_is_int
def D__law_lists (F : FF) : SD := (sRet (dIf (tBl (dUn (isD2 .list .tuple) (dVar 0))) (dFz (oLc (iSeq (dVar 0)) (gdName 1) tdYes (dCall F (aCons (dVar 1) aNil)) [1])) (dVar 0)))
def R__law_lists : Nat → FF
  | 0 => fun _ => .bad
  | n + 1 => runP 2 1 (D__law_lists (R__law_lists n))
abbrev F__law_lists : FF := R__law_lists 10
def D__law_met : SD := (sRetO (oLc (iR1 (aCons (dCall F__law_round (aCons (dVar 0) (aCons (dVar 1) aNil))) aNil)) (gdName 4) (tBl (dOp eqD (dOp idxD (dVar 0) (dCall F__law_spot (aCons (dOp addD (dVar 2) (dVar 4)) (aCons (dCb lenD (aCons (dVar 0) aNil)) aNil)))) (dOp idxD (dVar 1) (dCall F__law_spot (aCons (dOp addD (dVar 3) (dVar 4)) (aCons (dCb lenD (aCons (dVar 1) aNil)) aNil)))))) (dVar 4) [4]))
abbrev F__law_met : FF := runP 5 4 D__law_met
def D__law_of : SD := (sRet (dOp idxD (dVar 1) (dCallT F__law_take 0 (aCons (dCb lenD (aCons (dVar 1) aNil)) aNil))))
abbrev F__law_of : FT := runT 2 2 D__law_of
def D__law_or_bar : SD := (sRet (dIf (tBl (dOp isN (dVar 0) (dC .non))) (dFz (oLst (aCons (dC (.str "can not")) (aCons (dC (.bl true)) aNil)))) (dVar 0)))
abbrev F__law_or_bar : FF := runP 1 1 D__law_or_bar
def D__law_row : SD := (sRet (dCb tupD (aCons (dFz (oLc (iR1 (aCons (dOp addD (dC (.int 1)) (dCallT F__law_take 0 (aCons (dVar 1) aNil))) aNil)) (gdName 3) tdYes (dCallT F__law_take 0 (aCons (dVar 2) aNil)) [3])) aNil)))
abbrev F__law_row : FT := runT 4 3 D__law_row
def D__law_same (F : FF) : SD := (sSeq (sIf (tBl (dUn (isD2 .list .tuple) (dVar 1))) (sSeq (sIf (tOR (tBl (dOp neD (dUn (isD1 .list) (dVar 0)) (dUn (isD1 .list) (dVar 1)))) (tBl (dOp neD (dUn (isD1 .tuple) (dVar 0)) (dUn (isD1 .tuple) (dVar 1))))) (sRet (dC (.bl false))) sNext)
  (sRet (dAnd (dOp eqD (dCb lenD (aCons (dVar 0) aNil)) (dCb lenD (aCons (dVar 1) aNil))) (dCb allD (aCons (dFz (oLc (iZp (aCons (dVar 0) (aCons (dVar 1) aNil))) (gdTup 2 (gdCons (gdName 2) (gdCons (gdName 3) gdNil))) tdYes (dCall F (aCons (dVar 2) (aCons (dVar 3) aNil))) [2, 3])) aNil))))) sNext)
  (sSeq (sIf (tBl (dOp isN (dVar 1) (dC .non))) (sRet (dOp isN (dVar 0) (dC .non))) sNext)
  (sSeq (sIf (tBl (dUn (isD2 .bool .str) (dVar 1))) (sRet (dAnd (dOp eqD (dUn (isD1 .bool) (dVar 0)) (dUn (isD1 .bool) (dVar 1))) (dAnd (dOp eqD (dUn (isD1 .str) (dVar 0)) (dUn (isD1 .str) (dVar 1))) (dOp eqD (dVar 0) (dVar 1))))) sNext)
  (sRet (dAnd (dUn (isD1 .int) (dVar 0)) (dAnd (dUn notD (dUn (isD1 .bool) (dVar 0))) (dOp eqD (dVar 0) (dVar 1))))))))
def R__law_same : Nat → FF
  | 0 => fun _ => .bad
  | n + 1 => runP 4 2 (D__law_same (R__law_same n))
abbrev F__law_same : FF := R__law_same 10
def D__law_set : SD := (sRet (dCb tupD (aCons (dFz (oUn ssO (dVar 0))) aNil)))
abbrev F__law_set : FF := runP 1 1 D__law_set
def D__law_slots : SD := (sRet (dCb tupD (aCons (dFz (oLc (iEn (aCons (dVar 0) aNil)) (gdTup 2 (gdCons (gdName 2) (gdCons (gdName 3) gdNil))) (tBl (dOp eqD (dVar 3) (dVar 1))) (dVar 2) [2, 3])) aNil)))
abbrev F__law_slots : FF := runP 4 2 D__law_slots
def D__law_time_b : SD := (sSeq (sSet 5 (dOp mulD (dOp fdivD (dCb lenD (aCons (dVar 0) aNil)) (dCall F__law_common_b (aCons (dCb lenD (aCons (dVar 0) aNil)) (aCons (dCb lenD (aCons (dVar 1) aNil)) aNil)))) (dCb lenD (aCons (dVar 1) aNil))))
  (sSeq (sFor (iR1 (aCons (dVar 5) aNil)) (gdName 6) (sSeq (sSet 7 (dOp idxD (dVar 0) (dOp modD (dOp addD (dVar 2) (dVar 6)) (dCb lenD (aCons (dVar 0) aNil)))))
  (sIf (tAn (tBl (dOp eqD (dVar 7) (dOp idxD (dVar 1) (dOp modD (dOp addD (dVar 3) (dVar 6)) (dCb lenD (aCons (dVar 1) aNil)))))) (tOR (tBl (dOp isN (dVar 4) (dC .non))) (tBl (dOp eqD (dVar 7) (dVar 4))))) (sRet (dOp addD (dVar 6) (dC (.int 1)))) sNext)))
  (sRet (dC .non))))
abbrev F__law_time_b : FF := runP 8 5 D__law_time_b
def D__law_unmarked : SD := (sRet (dIf (tAn (tBl (dUn (isD1 .list) (dVar 0))) (tAn (tBl (dOp gtD (dCb lenD (aCons (dVar 0) aNil)) (dC (.int 0)))) (tBl (dUn (isD1 .str) (dOp idxD (dVar 0) (dC (.int 0))))))) (dFz (oLst (aCons (dC (.str "told")) (aCons (dC (.str "a mark")) aNil)))) (dVar 0)))
abbrev F__law_unmarked : FF := runP 1 1 D__law_unmarked
def D__law_worst_b : SD := (sSeq (sAsg (dTup (aCons (dC (.int 0)) (aCons (dC .non) aNil))) (gdTup 2 (gdCons (gdName 3) (gdCons (gdName 4) gdNil))))
  (sSeq (sFor (iR1 (aCons (dCb lenD (aCons (dVar 0) aNil)) aNil)) (gdName 5) (sFor (iR1 (aCons (dCb lenD (aCons (dVar 1) aNil)) aNil)) (gdName 6) (sSeq (sSet 7 (dCall F__law_time_b (aCons (dVar 0) (aCons (dVar 1) (aCons (dVar 5) (aCons (dVar 6) (aCons (dVar 2) aNil)))))))
  (sSeq (sIf (tBl (dOp isN (dVar 7) (dC .non))) (sRet (dTup (aCons (dC .non) (aCons (dTup (aCons (dVar 5) (aCons (dVar 6) aNil))) aNil)))) sNext)
  (sIf (tBl (dOp gtD (dVar 7) (dVar 3))) (sPar 3 4 (aCons (dVar 7) (aCons (dTup (aCons (dVar 5) (aCons (dVar 6) aNil))) aNil))) sNext)))))
  (sRet (dTup (aCons (dVar 3) (aCons (dVar 4) aNil))))))
abbrev F__law_worst_b : FF := runP 8 3 D__law_worst_b
def D_common : SD := (sSeq (sPar 0 1 (aCons (dCb absD (aCons (dVar 0) aNil)) (aCons (dCb absD (aCons (dVar 1) aNil)) aNil)))
  (sSeq (sWhile 100000 (tBl (dOp neD (dVar 1) (dC (.int 0)))) (sPar 0 1 (aCons (dVar 1) (aCons (dOp modD (dVar 0) (dVar 1)) aNil))))
  (sRet (dVar 0))))
abbrev F_common : FF := runP 2 2 D_common
def D_round_of : SD := (sSeq (sSet 1 (dC (.int 1)))
  (sSeq (sFor (iSeq (dVar 0)) (gdName 2) (sSet 1 (dOp mulD (dOp fdivD (dVar 1) (dCall F_common (aCons (dVar 1) (aCons (dCb lenD (aCons (dVar 2) aNil)) aNil)))) (dCb lenD (aCons (dVar 2) aNil)))))
  (sSeq (sIf (tBl (dOp gtD (dVar 1) (dC (.int 100000)))) (sRaise "TooMany") sNext)
  (sRet (dVar 1)))))
abbrev F_round_of : FF := runP 3 1 D_round_of
def D_all_time_in : SD := (sSeq (sFor (iR1 (aCons (dVar 2) aNil)) (gdName 3) (sSeq (sSet 4 (dFz (oLc (iZp (aCons (dVar 0) (aCons (dVar 1) aNil))) (gdTup 2 (gdCons (gdName 5) (gdCons (gdName 6) gdNil))) tdYes (dOp idxD (dVar 5) (dOp modD (dOp addD (dVar 6) (dVar 3)) (dCb lenD (aCons (dVar 5) aNil)))) [5, 6])))
  (sIf (tBl (dOp eqD (dCb minL (aCons (dVar 4) aNil)) (dCb maxL (aCons (dVar 4) aNil)))) (sRet (dOp addD (dVar 3) (dC (.int 1)))) sNext)))
  (sRet (dC .non)))
abbrev F_all_time_in : FF := runP 7 3 D_all_time_in
def D_tupled (F : FF) : SD := (sRet (dIf (tBl (dUn (isD2 .list .tuple) (dVar 0))) (dCb tupD (aCons (dFz (oLc (iSeq (dVar 0)) (gdName 1) tdYes (dCall F (aCons (dVar 1) aNil)) [1])) aNil)) (dVar 0)))
def R_tupled : Nat → FF
  | 0 => fun _ => .bad
  | n + 1 => runP 2 1 (D_tupled (R_tupled n))
abbrev F_tupled : FF := R_tupled 10
def D_is_number : SD := (sRet (dAnd (dUn (isD1 .int) (dVar 0)) (dUn notD (dUn (isD1 .bool) (dVar 0)))))
abbrev F_is_number : FF := runP 1 1 D_is_number
def D_is_within : SD := (sRet (dAnd (dCall F_is_number (aCons (dVar 0) aNil)) (dChain leD leD (dVar 1) (dVar 0) (dVar 2))))
abbrev F_is_within : FF := runP 3 3 D_is_within
def D_is_row_in : SD := (sRet (dAnd (dUn (isD1 .tuple) (dVar 0)) (dAnd (dOp neD (dVar 0) (dTup aNil)) (dCb allD (aCons (dFz (oLc (iSeq (dVar 0)) (gdName 1) tdYes (dCall F_is_within (aCons (dVar 1) (aCons (dC (.int 0)) (aCons (dC (.int 30)) aNil)))) [1])) aNil)))))
abbrev F_is_row_in : FF := runP 2 1 D_is_row_in
def D_sure_lot_of_rows : SD := (sSeq (sSet 1 (dCall F_tupled (aCons (dVar 0) aNil)))
  (sSeq (sIf (tOR (tNo (tBl (dUn (isD1 .tuple) (dVar 1)))) (tNo (tBl (dChain leD leD (dC (.int 2)) (dCb lenD (aCons (dVar 1) aNil)) (dC (.int 5)))))) (sRaise "Unfit") sNext)
  (sSeq (sIf (tNo (tBl (dCb allD (aCons (dFz (oLc (iSeq (dVar 1)) (gdName 2) tdYes (dAnd (dCall F_is_row_in (aCons (dVar 2) aNil)) (dOp leD (dCb lenD (aCons (dVar 2) aNil)) (dC (.int 400)))) [2])) aNil)))) (sRaise "Unfit") sNext)
  (sRet (dVar 1)))))
abbrev F_sure_lot_of_rows : FF := runP 3 1 D_sure_lot_of_rows
def D_channels_in : SD := (sRet (dCb tupD (aCons (dFz (oUn ssO (dVar 0))) aNil)))
abbrev F_channels_in : FF := runP 1 1 D_channels_in
def D_all_channels : SD := (sSeq (sSet 1 (dCall F_sure_lot_of_rows (aCons (dVar 0) aNil)))
  (sRet (dCb tupD (aCons (dFz (oLc (iSeq (dCall F_channels_in (aCons (dOp idxD (dVar 1) (dC (.int 0))) aNil))) (gdName 2) (tBl (dCb allD (aCons (dFz (oLc (iSeq (dVar 1)) (gdName 3) tdYes (dOp inD (dVar 2) (dVar 3)) [3])) aNil))) (dVar 2) [2])) aNil))))
abbrev F_all_channels : FF := runP 4 1 D_all_channels
def D_sure_places : SD := (sSeq (sSet 2 (dCall F_tupled (aCons (dVar 1) aNil)))
  (sSeq (sIf (tOR (tNo (tBl (dUn (isD1 .tuple) (dVar 2)))) (tBl (dOp neD (dCb lenD (aCons (dVar 2) aNil)) (dCb lenD (aCons (dVar 0) aNil))))) (sRaise "Unfit") sNext)
  (sSeq (sIf (tNo (tBl (dCb allD (aCons (dFz (oLc (iZp (aCons (dVar 2) (aCons (dVar 0) aNil))) (gdTup 2 (gdCons (gdName 3) (gdCons (gdName 4) gdNil))) tdYes (dCall F_is_within (aCons (dVar 3) (aCons (dC (.int 0)) (aCons (dOp subD (dCb lenD (aCons (dVar 4) aNil)) (dC (.int 1))) aNil)))) [3, 4])) aNil)))) (sRaise "Unfit") sNext)
  (sRet (dVar 2)))))
abbrev F_sure_places : FF := runP 5 2 D_sure_places
def D_all_first : SD := (sSeq (sSet 2 (dCall F_sure_lot_of_rows (aCons (dVar 0) aNil)))
  (sSeq (sSet 3 (dCall F_sure_places (aCons (dVar 2) (aCons (dVar 1) aNil))))
  (sRet (dCall F_all_time_in (aCons (dVar 2) (aCons (dVar 3) (aCons (dCall F_round_of (aCons (dVar 2) aNil)) aNil)))))))
abbrev F_all_first : FF := runP 4 2 D_all_first
def D_sure_hops : SD := (sSeq (sSet 1 (dCall F_tupled (aCons (dVar 0) aNil)))
  (sSeq (sIf (tOR (tNo (tBl (dCall F_is_row_in (aCons (dVar 1) aNil)))) (tBl (dOp gtD (dCb lenD (aCons (dVar 1) aNil)) (dC (.int 400))))) (sRaise "Unfit") sNext)
  (sRet (dVar 1))))
abbrev F_sure_hops : FF := runP 2 1 D_sure_hops
def D_sure_two : SD := (sSeq (sSet 2 (dCall F_sure_hops (aCons (dVar 0) aNil)))
  (sRet (dTup (aCons (dVar 2) (aCons (dCall F_sure_hops (aCons (dVar 1) aNil)) aNil)))))
abbrev F_sure_two : FF := runP 3 2 D_sure_two
def D_slots_in : SD := (sRet (dCb tupD (aCons (dFz (oLc (iEn (aCons (dVar 0) aNil)) (gdTup 2 (gdCons (gdName 2) (gdCons (gdName 3) gdNil))) (tBl (dOp eqD (dVar 3) (dVar 1))) (dVar 2) [2, 3])) aNil)))
abbrev F_slots_in : FF := runP 4 2 D_slots_in
def D_together_in : SD := (sRet (dOp mulD (dOp fdivD (dCb lenD (aCons (dVar 0) aNil)) (dCall F_common (aCons (dCb lenD (aCons (dVar 0) aNil)) (aCons (dCb lenD (aCons (dVar 1) aNil)) aNil)))) (dCb lenD (aCons (dVar 1) aNil))))
abbrev F_together_in : FF := runP 2 2 D_together_in
def D_sure_within : SD := (sSeq (sIf (tNo (tBl (dCall F_is_within (aCons (dVar 0) (aCons (dVar 1) (aCons (dVar 2) aNil)))))) (sRaise "Unfit") sNext)
  (sRet (dVar 0)))
abbrev F_sure_within : FF := runP 3 3 D_sure_within
def D_sure_channel : SD := (sRet (dCall F_sure_within (aCons (dVar 0) (aCons (dC (.int 0)) (aCons (dC (.int 30)) aNil)))))
abbrev F_sure_channel : FF := runP 1 1 D_sure_channel
def D_shared_in : SD := (sRet (dCb tupD (aCons (dFz (oLc (iSeq (dCall F_channels_in (aCons (dVar 0) aNil))) (gdName 2) (tBl (dOp inD (dVar 2) (dCall F_channels_in (aCons (dVar 1) aNil)))) (dVar 2) [2])) aNil)))
abbrev F_shared_in : FF := runP 3 2 D_shared_in
def D_lots_of : SD := (sSeq (sSet 2 (dFz (oLst (aCons (dTup aNil) aNil))))
  (sSeq (sFor (iSeq (dVar 0)) (gdName 3) (sSeq (sSet 2 (dOp addD (dVar 2) (dFz (oLc (iSeq (dVar 2)) (gdName 4) (tBl (dOp ltD (dCb lenD (aCons (dVar 4) aNil)) (dVar 1))) (dOp addD (dVar 4) (dTup (aCons (dVar 3) aNil))) [4]))))
  (sIf (tBl (dOp gtD (dCb lenD (aCons (dVar 2) aNil)) (dC (.int 2000)))) (sRaise "TooMany") sNext)))
  (sRetO (oCb sortO (aCons (dFz (oLc (iSeq (dVar 2)) (gdName 4) (tBl (dOp eqD (dCb lenD (aCons (dVar 4) aNil)) (dVar 1))) (dVar 4) [4])) aNil)))))
abbrev F_lots_of : FF := runP 5 2 D_lots_of
def D_hushed : SD := (sRet (dCb tupD (aCons (dFz (oLc (iSeq (dVar 0)) (gdName 3) tdYes (dIf (tBl (dOp inD (dVar 3) (dVar 1))) (dVar 2) (dVar 3)) [3])) aNil)))
abbrev F_hushed : FF := runP 4 3 D_hushed
def D_is_code_in : SD := (sRet (dAnd (dUn (isD1 .tuple) (dVar 0)) (dAnd (dOp neD (dVar 0) (dTup aNil)) (dCb allD (aCons (dFz (oLc (iSeq (dVar 0)) (gdName 1) tdYes (dCall F_is_within (aCons (dVar 1) (aCons (dC (.int 0)) (aCons (dC (.int 1)) aNil)))) [1])) aNil)))))
abbrev F_is_code_in : FF := runP 2 1 D_is_code_in
def D_sure_code : SD := (sSeq (sSet 1 (dCall F_tupled (aCons (dVar 0) aNil)))
  (sSeq (sIf (tOR (tNo (tBl (dCall F_is_code_in (aCons (dVar 1) aNil)))) (tBl (dOp gtD (dCb lenD (aCons (dVar 1) aNil)) (dC (.int 40))))) (sRaise "Unfit") sNext)
  (sRet (dVar 1))))
abbrev F_sure_code : FF := runP 2 1 D_sure_code
def D_sure_codes : SD := (sSeq (sSet 2 (dCall F_sure_code (aCons (dVar 0) aNil)))
  (sSeq (sSet 3 (dCall F_sure_code (aCons (dVar 1) aNil)))
  (sSeq (sIf (tBl (dOp neD (dCb lenD (aCons (dVar 2) aNil)) (dCb lenD (aCons (dVar 3) aNil)))) (sRaise "Unfit") sNext)
  (sRet (dTup (aCons (dVar 2) (aCons (dVar 3) aNil)))))))
abbrev F_sure_codes : FF := runP 4 2 D_sure_codes
def D_turned_code : SD := (sRet (dOp addD (dSl (dVar 0) (pSome (dVar 1)) pNo) (dSl (dVar 0) pNo (pSome (dVar 1)))))
abbrev F_turned_code : FF := runP 2 2 D_turned_code
def D_time_in : SD := (sSeq (sFor (iR1 (aCons (dCall F_together_in (aCons (dVar 0) (aCons (dVar 1) aNil))) aNil)) (gdName 4) (sSeq (sSet 5 (dOp idxD (dVar 0) (dOp modD (dOp addD (dOp idxD (dVar 2) (dC (.int 0))) (dVar 4)) (dCb lenD (aCons (dVar 0) aNil)))))
  (sIf (tAn (tBl (dOp eqD (dVar 5) (dOp idxD (dVar 1) (dOp modD (dOp addD (dOp idxD (dVar 2) (dC (.int 1))) (dVar 4)) (dCb lenD (aCons (dVar 1) aNil)))))) (tBl (dOp inD (dVar 3) (dTup (aCons (dC .non) (aCons (dVar 5) aNil)))))) (sRet (dOp addD (dVar 4) (dC (.int 1)))) sNext)))
  (sRet (dC .non)))
abbrev F_time_in : FF := runP 6 4 D_time_in
def D_is_long : SD := (sRet (dAnd (dUn (isD1 .tuple) (dVar 0)) (dOp eqD (dCb lenD (aCons (dVar 0) aNil)) (dVar 1))))
abbrev F_is_long : FF := runP 2 2 D_is_long
def D_are_barring : SD := (sSeq (sAsg (dCall F_sure_two (aCons (dVar 0) (aCons (dVar 1) aNil))) (gdTup 2 (gdCons (gdName 3) (gdCons (gdName 4) gdNil))))
  (sSeq (sIf (tOR (tNo (tBl (dCall F_is_long (aCons (dVar 2) (aCons (dC (.int 2)) aNil))))) (tOR (tNo (tBl (dCall F_is_within (aCons (dOp idxD (dVar 2) (dC (.int 0))) (aCons (dC (.int 0)) (aCons (dOp subD (dCb lenD (aCons (dVar 3) aNil)) (dC (.int 1))) aNil)))))) (tNo (tBl (dCall F_is_within (aCons (dOp idxD (dVar 2) (dC (.int 1))) (aCons (dC (.int 0)) (aCons (dOp subD (dCb lenD (aCons (dVar 4) aNil)) (dC (.int 1))) aNil)))))))) (sRet (dC (.bl false))) sNext)
  (sRet (dOp isN (dCall F_time_in (aCons (dVar 3) (aCons (dVar 4) (aCons (dVar 2) (aCons (dC .non) aNil))))) (dC .non)))))
abbrev F_are_barring : FF := runP 5 3 D_are_barring
def D_pairs_in : SD := (sSeq (sSetD 3)
  (sSeq (sFor (iR1 (aCons (dCall F_together_in (aCons (dVar 0) (aCons (dVar 1) aNil))) aNil)) (gdName 4) (sSeq (sSet 5 (dTup (aCons (dOp idxD (dVar 0) (dOp modD (dOp addD (dOp idxD (dVar 2) (dC (.int 0))) (dVar 4)) (dCb lenD (aCons (dVar 0) aNil)))) (aCons (dOp idxD (dVar 1) (dOp modD (dOp addD (dOp idxD (dVar 2) (dC (.int 1))) (dVar 4)) (dCb lenD (aCons (dVar 1) aNil)))) aNil))))
  (sPutD 3 (dVar 5) (dOp addD (dGetV 3 (dVar 5) (dC (.int 0))) (dC (.int 1))))))
  (sRet (dVar 3))))
abbrev F_pairs_in : FF := runP 6 3 D_pairs_in
def D_least_in : SD := (sSeq (sFor (iR2 (aCons (dC (.int 1)) (aCons (dCb lenD (aCons (dVar 0) aNil)) aNil))) (gdName 1) (sIf (tAn (tBl (dOp eqD (dOp modD (dCb lenD (aCons (dVar 0) aNil)) (dVar 1)) (dC (.int 0)))) (tBl (dOp eqD (dVar 0) (dOp mulD (dSl (dVar 0) pNo (pSome (dVar 1))) (dOp fdivD (dCb lenD (aCons (dVar 0) aNil)) (dVar 1)))))) (sRet (dSl (dVar 0) pNo (pSome (dVar 1)))) sNext))
  (sRet (dVar 0)))
abbrev F_least_in : FF := runP 2 1 D_least_in
def D_are_one : SD := (sSeq (sSet 2 (dCall F_sure_hops (aCons (dVar 0) aNil)))
  (sRet (dOp eqD (dCall F_least_in (aCons (dVar 2) aNil)) (dCall F_least_in (aCons (dCall F_sure_hops (aCons (dVar 1) aNil)) aNil)))))
abbrev F_are_one : FF := runP 3 2 D_are_one
def D_are_phases : SD := (sRet (dAnd (dCall F_is_long (aCons (dVar 2) (aCons (dC (.int 2)) aNil))) (dAnd (dCall F_is_within (aCons (dOp idxD (dVar 2) (dC (.int 0))) (aCons (dC (.int 0)) (aCons (dOp subD (dCb lenD (aCons (dVar 0) aNil)) (dC (.int 1))) aNil)))) (dCall F_is_within (aCons (dOp idxD (dVar 2) (dC (.int 1))) (aCons (dC (.int 0)) (aCons (dOp subD (dCb lenD (aCons (dVar 1) aNil)) (dC (.int 1))) aNil)))))))
abbrev F_are_phases : FF := runP 3 3 D_are_phases
def D_moved_in : SD := (sSeq (sSet 2 (dOp modD (dVar 1) (dCb lenD (aCons (dVar 0) aNil))))
  (sRet (dOp addD (dSl (dVar 0) (pSome (dVar 2)) pNo) (dSl (dVar 0) pNo (pSome (dVar 2))))))
abbrev F_moved_in : FF := runP 3 2 D_moved_in
def D_are_turned : SD := (sSeq (sSet 2 (dCall F_least_in (aCons (dCall F_sure_hops (aCons (dVar 0) aNil)) aNil)))
  (sSeq (sSet 3 (dCall F_least_in (aCons (dCall F_sure_hops (aCons (dVar 1) aNil)) aNil)))
  (sRet (dAnd (dOp eqD (dCb lenD (aCons (dVar 2) aNil)) (dCb lenD (aCons (dVar 3) aNil))) (dCb anyD (aCons (dFz (oLc (iR1 (aCons (dCb lenD (aCons (dVar 2) aNil)) aNil)) (gdName 4) tdYes (dOp eqD (dCall F_moved_in (aCons (dVar 2) (aCons (dVar 4) aNil))) (dVar 3)) [4])) aNil))))))
abbrev F_are_turned : FF := runP 5 2 D_are_turned
def D_are_turnings : SD := (sSeq (sAsg (dCall F_sure_codes (aCons (dVar 0) (aCons (dVar 1) aNil))) (gdTup 2 (gdCons (gdName 2) (gdCons (gdName 3) gdNil))))
  (sRet (dCb anyD (aCons (dFz (oLc (iR1 (aCons (dCb lenD (aCons (dVar 2) aNil)) aNil)) (gdName 4) tdYes (dOp eqD (dCall F_turned_code (aCons (dVar 2) (aCons (dVar 4) aNil))) (dVar 3)) [4])) aNil))))
abbrev F_are_turnings : FF := runP 5 2 D_are_turnings
def D_counts_in : SD := (sRet (dOp mulD (dCb lenD (aCons (dCall F_slots_in (aCons (dVar 0) (aCons (dVar 2) aNil))) aNil)) (dCb lenD (aCons (dCall F_slots_in (aCons (dVar 1) (aCons (dVar 2) aNil))) aNil))))
abbrev F_counts_in : FF := runP 3 3 D_counts_in
def D_bars_in : SD := (sSeq (sSet 2 (dCall F_common (aCons (dCb lenD (aCons (dVar 0) aNil)) (aCons (dCb lenD (aCons (dVar 1) aNil)) aNil))))
  (sRetO (oLc (iSeq (dCall F_shared_in (aCons (dVar 0) (aCons (dVar 1) aNil)))) (gdName 3) (tBl (dOp ltD (dCall F_counts_in (aCons (dVar 0) (aCons (dVar 1) (aCons (dVar 3) aNil)))) (dVar 2))) (dVar 3) [3])))
abbrev F_bars_in : FF := runP 4 2 D_bars_in
def D_channel_at : SD := (sSeq (sSet 2 (dCall F_sure_hops (aCons (dVar 0) aNil)))
  (sRet (dOp idxD (dVar 2) (dOp modD (dCall F_sure_within (aCons (dVar 1) (aCons (dC (.int 0)) (aCons (dC (.int 1000000000)) aNil)))) (dCb lenD (aCons (dVar 2) aNil))))))
abbrev F_channel_at : FF := runP 3 2 D_channel_at
def D_channels_of : SD := (sRet (dCall F_channels_in (aCons (dCall F_sure_hops (aCons (dVar 0) aNil)) aNil)))
abbrev F_channels_of : FF := runP 1 1 D_channels_of
def D_chosen_of : SD := (sSeq (sSet 2 (dFz (oLst (aCons (dTup aNil) aNil))))
  (sSeq (sFor (iSeq (dVar 0)) (gdName 3) (sSet 2 (dOp addD (dVar 2) (dFz (oLc (iSeq (dVar 2)) (gdName 4) (tBl (dOp ltD (dCb lenD (aCons (dVar 4) aNil)) (dVar 1))) (dOp addD (dVar 4) (dTup (aCons (dVar 3) aNil))) [4])))))
  (sRetO (oLc (iSeq (dVar 2)) (gdName 4) (tBl (dOp eqD (dCb lenD (aCons (dVar 4) aNil)) (dVar 1))) (dVar 4) [4]))))
abbrev F_chosen_of : FF := runP 5 2 D_chosen_of
def D_turnings_of : SD := (sRetO (oLc (iR1 (aCons (dCb lenD (aCons (dVar 0) aNil)) aNil)) (gdName 2) (tBl (dOp eqD (dCall F_turned_code (aCons (dVar 0) (aCons (dVar 2) aNil))) (dVar 1))) (dVar 2) [2]))
abbrev F_turnings_of : FF := runP 3 2 D_turnings_of
def D_slots_met : SD := (sSeq (sSetO 4 (oLst aNil))
  (sSeq (sFor (iR1 (aCons (dCall F_together_in (aCons (dVar 0) (aCons (dVar 1) aNil))) aNil)) (gdName 5) (sSeq (sSet 6 (dOp idxD (dVar 0) (dOp modD (dOp addD (dVar 2) (dVar 5)) (dCb lenD (aCons (dVar 0) aNil)))))
  (sIf (tAn (tBl (dOp eqD (dVar 6) (dOp idxD (dVar 1) (dOp modD (dVar 5) (dCb lenD (aCons (dVar 1) aNil)))))) (tBl (dOp inD (dVar 3) (dTup (aCons (dC .non) (aCons (dVar 6) aNil)))))) (sApp 4 (dVar 5)) sNext)))
  (sRet (dCb tupD (aCons (dVar 4) aNil)))))
abbrev F_slots_met : FF := runP 7 4 D_slots_met
def D_gaps_in : SD := (sRet (dCall F_common (aCons (dCb lenD (aCons (dVar 0) aNil)) (aCons (dCb lenD (aCons (dVar 1) aNil)) aNil))))
abbrev F_gaps_in : FF := runP 2 2 D_gaps_in
def D_clock_in : SD := (sRet (dCb tupD (aCons (dFz (oLc (iR1 (aCons (dVar 0) aNil)) (gdName 3) tdYes (dOp modD (dOp addD (dVar 2) (dOp mulD (dVar 1) (dVar 3))) (dVar 0)) [3])) aNil)))
abbrev F_clock_in : FF := runP 4 3 D_clock_in
def D_is_prime_in : SD := (sRet (dAnd (dOp gtD (dVar 0) (dC (.int 1))) (dCb allD (aCons (dFz (oLc (iR2 (aCons (dC (.int 2)) (aCons (dVar 0) aNil))) (gdName 1) (tBl (dOp leD (dOp mulD (dVar 1) (dVar 1)) (dVar 0))) (dOp neD (dOp modD (dVar 0) (dVar 1)) (dC (.int 0))) [1])) aNil))))
abbrev F_is_prime_in : FF := runP 2 1 D_is_prime_in
def D_sure_prime : SD := (sSeq (sIf (tOR (tNo (tBl (dCall F_is_within (aCons (dVar 0) (aCons (dC (.int 2)) (aCons (dC (.int 31)) aNil)))))) (tNo (tBl (dCall F_is_prime_in (aCons (dVar 0) aNil))))) (sRaise "Unfit") sNext)
  (sRet (dVar 0)))
abbrev F_sure_prime : FF := runP 1 1 D_sure_prime
def D_sure_clock : SD := (sSeq (sSet 2 (dCall F_tupled (aCons (dVar 1) aNil)))
  (sSeq (sIf (tOR (tNo (tBl (dCall F_is_long (aCons (dVar 2) (aCons (dC (.int 2)) aNil))))) (tNo (tBl (dCb allD (aCons (dFz (oLc (iSeq (dVar 2)) (gdName 3) tdYes (dCall F_is_within (aCons (dVar 3) (aCons (dC (.int 0)) (aCons (dOp subD (dVar 0) (dC (.int 1))) aNil)))) [3])) aNil))))) (sRaise "Unfit") sNext)
  (sRet (dVar 2))))
abbrev F_sure_clock : FF := runP 4 2 D_sure_clock
def D_contrary_by : SD := (sRet (dOp idxD (dFz (oLc (iR1 (aCons (dVar 1) aNil)) (gdName 2) (tBl (dOp eqD (dOp modD (dOp mulD (dVar 2) (dVar 0)) (dVar 1)) (dOp modD (dC (.int 1)) (dVar 1)))) (dVar 2) [2])) (dC (.int 0))))
abbrev F_contrary_by : FF := runP 3 2 D_contrary_by
def D_clock_meet : SD := (sSeq (sSet 3 (dCall F_sure_prime (aCons (dVar 0) aNil)))
  (sSeq (sSet 4 (dCall F_sure_clock (aCons (dVar 3) (aCons (dVar 1) aNil))))
  (sSeq (sSet 5 (dCall F_sure_clock (aCons (dVar 3) (aCons (dVar 2) aNil))))
  (sSeq (sPar 6 7 (aCons (dOp modD (dOp subD (dOp idxD (dVar 4) (dC (.int 0))) (dOp idxD (dVar 5) (dC (.int 0)))) (dVar 3)) (aCons (dOp modD (dOp subD (dOp idxD (dVar 5) (dC (.int 1))) (dOp idxD (dVar 4) (dC (.int 1)))) (dVar 3)) aNil)))
  (sSeq (sIf (tAn (tBl (dOp eqD (dVar 6) (dC (.int 0)))) (tBl (dOp neD (dVar 7) (dC (.int 0))))) (sRaise "CanNot") sNext)
  (sRet (dIf (tBl (dOp eqD (dVar 6) (dC (.int 0)))) (dC (.int 0)) (dOp modD (dOp mulD (dVar 7) (dCall F_contrary_by (aCons (dVar 6) (aCons (dVar 3) aNil)))) (dVar 3)))))))))
abbrev F_clock_meet : FF := runP 8 3 D_clock_meet
def D_clock_row : SD := (sSeq (sSet 2 (dCall F_sure_prime (aCons (dVar 0) aNil)))
  (sSeq (sSet 3 (dCall F_sure_clock (aCons (dVar 2) (aCons (dVar 1) aNil))))
  (sRet (dCall F_clock_in (aCons (dVar 2) (aCons (dOp idxD (dVar 3) (dC (.int 0))) (aCons (dOp idxD (dVar 3) (dC (.int 1))) aNil)))))))
abbrev F_clock_row : FF := runP 4 2 D_clock_row
def D_sure_block : SD := (sSeq (sSet 2 (dOp mulD (dOp mulD (dC (.int 2)) (dVar 1)) (dVar 1)))
  (sSeq (sIf (tBl (dOp gtD (dOp mulD (dVar 2) (dCb lenD (aCons (dVar 0) aNil))) (dC (.int 400)))) (sRaise "CanNot") sNext)
  (sRet (dVar 2))))
abbrev F_sure_block : FF := runP 3 2 D_sure_block
def D_code_bound : SD := (sSeq (sSet 2 (dCall F_sure_code (aCons (dVar 0) aNil)))
  (sSeq (sSet 3 (dCall F_sure_within (aCons (dVar 1) (aCons (dC (.int 1)) (aCons (dC (.int 6)) aNil)))))
  (sRet (dOp mulD (dCall F_sure_block (aCons (dVar 2) (aCons (dVar 3) aNil))) (dCb lenD (aCons (dVar 2) aNil))))))
abbrev F_code_bound : FF := runP 4 2 D_code_bound
def D_code_row : SD := (sSeq (sSet 2 (dCall F_sure_code (aCons (dVar 0) aNil)))
  (sSeq (sSet 3 (dCall F_sure_within (aCons (dVar 1) (aCons (dC (.int 1)) (aCons (dC (.int 6)) aNil)))))
  (sSeq (sPar 4 5 (aCons (dCall F_sure_block (aCons (dVar 2) (aCons (dVar 3) aNil))) (aCons (dTup aNil) aNil)))
  (sSeq (sFor (iSeq (dVar 2)) (gdName 6) (sSet 5 (dOp addD (dVar 5) (dCb tupD (aCons (dFz (oLc (iR1 (aCons (dVar 4) aNil)) (gdName 7) tdYes (dIf (tBl (dOp eqD (dVar 6) (dC (.int 1)))) (dOp modD (dVar 7) (dVar 3)) (dOp modD (dOp fdivD (dVar 7) (dVar 3)) (dVar 3))) [7])) aNil)))))
  (sRet (dVar 5))))))
abbrev F_code_row : FF := runP 8 2 D_code_row
def D_counted_all : SD := (sSeq (sAsg (dCall F_sure_two (aCons (dVar 0) (aCons (dVar 1) aNil))) (gdTup 2 (gdCons (gdName 2) (gdCons (gdName 3) gdNil))))
  (sRet (dCb sumD (aCons (dFz (oLc (iSeq (dCall F_shared_in (aCons (dVar 2) (aCons (dVar 3) aNil)))) (gdName 4) tdYes (dCall F_counts_in (aCons (dVar 2) (aCons (dVar 3) (aCons (dVar 4) aNil)))) [4])) aNil))))
abbrev F_counted_all : FF := runP 5 2 D_counted_all
def D_counting_bar : SD := (sSeq (sAsg (dCall F_sure_two (aCons (dVar 0) (aCons (dVar 1) aNil))) (gdTup 2 (gdCons (gdName 2) (gdCons (gdName 3) gdNil))))
  (sSeq (sSet 4 (dCall F_bars_in (aCons (dVar 2) (aCons (dVar 3) aNil))))
  (sSeq (sIf (tBl (dOp eqD (dVar 4) (dFz (oLst aNil)))) (sRaise "CanNot") sNext)
  (sRet (dOp idxD (dVar 4) (dC (.int 0)))))))
abbrev F_counting_bar : FF := runP 5 2 D_counting_bar
def D_sure_round : SD := (sRet (dCall F_sure_within (aCons (dVar 0) (aCons (dC (.int 1)) (aCons (dC (.int 400)) aNil)))))
abbrev F_sure_round : FF := runP 1 1 D_sure_round
def D_is_slots_in : SD := (sSeq (sIf (tOR (tNo (tBl (dUn (isD1 .tuple) (dVar 1)))) (tNo (tBl (dCb allD (aCons (dFz (oLc (iSeq (dVar 1)) (gdName 4) tdYes (dCall F_is_within (aCons (dVar 4) (aCons (dC (.int 0)) (aCons (dOp subD (dVar 0) (dC (.int 1))) aNil)))) [4])) aNil))))) (sRet (dC (.bl false))) sNext)
  (sRet (dCb allD (aCons (dFz (oLc (iZp (aCons (dVar 1) (aCons (dSl (dVar 1) (pSome (dC (.int 1))) pNo) aNil))) (gdTup 2 (gdCons (gdName 2) (gdCons (gdName 3) gdNil))) tdYes (dOp ltD (dVar 2) (dVar 3)) [2, 3])) aNil))))
abbrev F_is_slots_in : FF := runP 5 2 D_is_slots_in
def D_sure_slots : SD := (sSeq (sSet 2 (dCall F_tupled (aCons (dVar 1) aNil)))
  (sSeq (sIf (tNo (tBl (dCall F_is_slots_in (aCons (dVar 0) (aCons (dVar 2) aNil))))) (sRaise "Unfit") sNext)
  (sRet (dVar 2))))
abbrev F_sure_slots : FF := runP 3 2 D_sure_slots
def D_every : SD := (sSeq (sSet 2 (dCall F_sure_hops (aCons (dVar 0) aNil)))
  (sSeq (sSet 3 (dCall F_sure_within (aCons (dVar 1) (aCons (dC (.int 1)) (aCons (dC (.int 1000000000)) aNil)))))
  (sRet (dCb tupD (aCons (dFz (oLc (iR1 (aCons (dOp fdivD (dCb lenD (aCons (dVar 2) aNil)) (dCall F_common (aCons (dCb lenD (aCons (dVar 2) aNil)) (aCons (dVar 3) aNil)))) aNil)) (gdName 4) tdYes (dOp idxD (dVar 2) (dOp modD (dOp mulD (dVar 4) (dVar 3)) (dCb lenD (aCons (dVar 2) aNil)))) [4])) aNil)))))
abbrev F_every : FF := runP 5 2 D_every
def D_sure_phases : SD := (sSeq (sSet 3 (dCall F_tupled (aCons (dVar 2) aNil)))
  (sSeq (sIf (tOR (tNo (tBl (dCall F_is_long (aCons (dVar 3) (aCons (dC (.int 2)) aNil))))) (tOR (tNo (tBl (dCall F_is_within (aCons (dOp idxD (dVar 3) (dC (.int 0))) (aCons (dC (.int 0)) (aCons (dOp subD (dCb lenD (aCons (dVar 0) aNil)) (dC (.int 1))) aNil)))))) (tNo (tBl (dCall F_is_within (aCons (dOp idxD (dVar 3) (dC (.int 1))) (aCons (dC (.int 0)) (aCons (dOp subD (dCb lenD (aCons (dVar 1) aNil)) (dC (.int 1))) aNil)))))))) (sRaise "Unfit") sNext)
  (sRet (dVar 3))))
abbrev F_sure_phases : FF := runP 4 3 D_sure_phases
def D_first_meet : SD := (sSeq (sAsg (dCall F_sure_two (aCons (dVar 0) (aCons (dVar 1) aNil))) (gdTup 2 (gdCons (gdName 3) (gdCons (gdName 4) gdNil))))
  (sRet (dCall F_time_in (aCons (dVar 3) (aCons (dVar 4) (aCons (dCall F_sure_phases (aCons (dVar 3) (aCons (dVar 4) (aCons (dVar 2) aNil)))) (aCons (dC .non) aNil)))))))
abbrev F_first_meet : FF := runP 5 3 D_first_meet
def D_first_meet_on : SD := (sSeq (sAsg (dCall F_sure_two (aCons (dVar 0) (aCons (dVar 1) aNil))) (gdTup 2 (gdCons (gdName 4) (gdCons (gdName 5) gdNil))))
  (sSeq (sSet 6 (dCall F_sure_phases (aCons (dVar 4) (aCons (dVar 5) (aCons (dVar 2) aNil)))))
  (sRet (dCall F_time_in (aCons (dVar 4) (aCons (dVar 5) (aCons (dVar 6) (aCons (dCall F_sure_channel (aCons (dVar 3) aNil)) aNil))))))))
abbrev F_first_meet_on : FF := runP 7 4 D_first_meet_on
def D_folded : SD := (sSeq (sSet 2 (dCall F_sure_hops (aCons (dVar 0) aNil)))
  (sSeq (sSet 3 (dCall F_sure_within (aCons (dVar 1) (aCons (dC (.int 1)) (aCons (dOp addD (dC (.int 30)) (dC (.int 1))) aNil)))))
  (sRet (dCb tupD (aCons (dFz (oLc (iSeq (dVar 2)) (gdName 4) tdYes (dOp modD (dVar 4) (dVar 3)) [4])) aNil)))))
abbrev F_folded : FF := runP 5 2 D_folded
def D_fraction : SD := (sSeq (sSet 2 (dCall F_common (aCons (dVar 0) (aCons (dVar 1) aNil))))
  (sSeq (sSet 2 (dIf (tBl (dOp gtD (dVar 1) (dC (.int 0)))) (dVar 2) (dUn negD (dVar 2))))
  (sRet (dTup (aCons (dOp fdivD (dVar 0) (dVar 2)) (aCons (dOp fdivD (dVar 1) (dVar 2)) aNil))))))
abbrev F_fraction : FF := runP 3 2 D_fraction
def D_sure_long : SD := (sSeq (sIf (tBl (dOp gtD (dCb lenD (aCons (dVar 0) aNil)) (dC (.int 400)))) (sRaise "CanNot") sNext)
  (sRet (dVar 0)))
abbrev F_sure_long : FF := runP 1 1 D_sure_long
def D_gone_round : SD := (sSeq (sSet 2 (dCall F_sure_hops (aCons (dVar 0) aNil)))
  (sRet (dCall F_sure_long (aCons (dOp mulD (dVar 2) (dCall F_sure_within (aCons (dVar 1) (aCons (dC (.int 1)) (aCons (dC (.int 12)) aNil))))) aNil))))
abbrev F_gone_round : FF := runP 3 2 D_gone_round
def D_size_in : SD := (sSeq (sSet 1 (dC (.int 1)))
  (sSeq (sWhile 100000 (tBl (dOp ltD (dOp addD (dOp mulD (dVar 1) (dOp subD (dVar 1) (dC (.int 1)))) (dC (.int 1))) (dVar 0))) (sSet 1 (dOp addD (dVar 1) (dC (.int 1)))))
  (sRet (dVar 1))))
abbrev F_size_in : FF := runP 2 1 D_size_in
def D_is_barred_in : SD := (sRet (dOp gtD (dOp mulD (dVar 0) (dCall F_size_in (aCons (dVar 1) aNil))) (dVar 1)))
abbrev F_is_barred_in : FF := runP 2 2 D_is_barred_in
def D_meets_at : SD := (sSeq (sIf (tNo (tBl (dCall F_is_within (aCons (dVar 3) (aCons (dC (.int 0)) (aCons (dOp subD (dCall F_together_in (aCons (dVar 0) (aCons (dVar 1) aNil))) (dC (.int 1))) aNil)))))) (sRet (dC (.bl false))) sNext)
  (sSeq (sSet 5 (dOp idxD (dVar 0) (dOp modD (dOp addD (dVar 2) (dVar 3)) (dCb lenD (aCons (dVar 0) aNil)))))
  (sRet (dAnd (dOp eqD (dVar 5) (dOp idxD (dVar 1) (dOp modD (dVar 3) (dCb lenD (aCons (dVar 1) aNil))))) (dOp inD (dVar 4) (dTup (aCons (dC .non) (aCons (dVar 5) aNil))))))))
abbrev F_meets_at : FF := runP 6 5 D_meets_at
def D_is_paper_against_5 : SD := (sRet (dCb allD (aCons (dFz (oLc (iEn (aCons (dVar 1) aNil)) (gdTup 2 (gdCons (gdName 6) (gdCons (gdName 7) gdNil))) tdYes (dOp neD (dOp idxD (dCall F_turned_code (aCons (dVar 3) (aCons (dVar 6) aNil))) (dVar 7)) (dOp idxD (dVar 4) (dVar 7))) [6, 7])) aNil)))
def D_is_paper_against_4 : SD := (sSeq (sIf (tOR (tNo (tBl (dCall F_is_long (aCons (dVar 1) (aCons (dCb lenD (aCons (dVar 3) aNil)) aNil))))) (tNo (tBl (dCb allD (aCons (dFz (oLc (iSeq (dVar 1)) (gdName 7) tdYes (dCall F_is_within (aCons (dVar 7) (aCons (dC (.int 0)) (aCons (dOp subD (dCb lenD (aCons (dVar 3) aNil)) (dC (.int 1))) aNil)))) [7])) aNil))))) (sRet (dC (.bl false))) sNext)
  D_is_paper_against_5)
def D_is_paper_against_3 : SD := (sSeq (sIf (tBl (dOp eqD (dVar 2) (dC (.str "one")))) (sRet (dAnd (dCall F_is_within (aCons (dVar 1) (aCons (dC (.int 0)) (aCons (dC (.int 1000000000)) aNil)))) (dOp neD (dOp idxD (dVar 3) (dOp modD (dVar 1) (dCb lenD (aCons (dVar 3) aNil)))) (dOp idxD (dVar 4) (dOp modD (dVar 1) (dCb lenD (aCons (dVar 4) aNil))))))) sNext)
  D_is_paper_against_4)
def D_is_paper_against_2 : SD := (sSeq (sIf (tBl (dOp eqD (dVar 2) (dC (.str "never")))) (sSeq (sIf (tNo (tBl (dCall F_is_long (aCons (dVar 1) (aCons (dCall F_gaps_in (aCons (dVar 3) (aCons (dVar 4) aNil))) aNil))))) (sRet (dC (.bl false))) sNext) (sRet (dCb allD (aCons (dFz (oLc (iEn (aCons (dVar 1) aNil)) (gdTup 2 (gdCons (gdName 8) (gdCons (gdName 7) gdNil))) tdYes (dCall F_meets_at (aCons (dVar 3) (aCons (dVar 4) (aCons (dVar 8) (aCons (dVar 7) (aCons (dC .non) aNil)))))) [8, 7])) aNil)))) sNext)
  D_is_paper_against_3)
def D_is_paper_against_1 : SD := (sSeq (sIf (tBl (dOp eqD (dVar 2) (dC (.str "full")))) (sSeq (sIf (tAn (tBl (dUn (isD1 .tuple) (dVar 1))) (tBl (dOp eqD (dVar 1) (dTup (aCons (dC (.str "nothing")) aNil))))) (sRet (dOp eqD (dCall F_shared_in (aCons (dVar 3) (aCons (dVar 4) aNil))) (dTup aNil))) sNext) (sSeq (sIf (tOR (tNo (tBl (dCall F_is_long (aCons (dVar 1) (aCons (dC (.int 2)) aNil))))) (tOR (tNo (tBl (dCall F_is_number (aCons (dOp idxD (dVar 1) (dC (.int 0))) aNil)))) (tBl (dOp ninD (dOp idxD (dVar 1) (dC (.int 0))) (dCall F_shared_in (aCons (dVar 3) (aCons (dVar 4) aNil))))))) (sRet (dC (.bl false))) sNext) (sRet (dAnd (dCall F_are_phases (aCons (dVar 3) (aCons (dVar 4) (aCons (dOp idxD (dVar 1) (dC (.int 1))) aNil)))) (dOp isN (dCall F_time_in (aCons (dVar 3) (aCons (dVar 4) (aCons (dOp idxD (dVar 1) (dC (.int 1))) (aCons (dOp idxD (dVar 1) (dC (.int 0))) aNil))))) (dC .non)))))) sNext)
  D_is_paper_against_2)
def D_is_paper_against : SD := (sSeq (sAsg (dTup (aCons (dOp idxD (dVar 0) (dC (.int 0))) (aCons (dOp idxD (dVar 0) (dC (.int 1))) (aCons (dOp idxD (dVar 0) (dC (.int 2))) aNil)))) (gdTup 3 (gdCons (gdName 2) (gdCons (gdName 3) (gdCons (gdName 4) gdNil)))))
  (sSeq (sIf (tBl (dOp eqD (dVar 2) (dC (.str "meet")))) (sSeq (sIf (tNo (tBl (dCall F_are_phases (aCons (dVar 3) (aCons (dVar 4) (aCons (dVar 1) aNil)))))) (sRet (dC (.bl false))) sNext) (sSeq (sSet 5 (dCall F_time_in (aCons (dVar 3) (aCons (dVar 4) (aCons (dVar 1) (aCons (dC .non) aNil)))))) (sRet (dOr (dOp isN (dVar 5) (dC .non)) (dOp gtD (dVar 5) (dOp idxD (dVar 0) (dC (.int 3)))))))) sNext)
  D_is_paper_against_1))
abbrev F_is_paper_against : FF := runP 9 2 D_is_paper_against
def D_is_close_row : SD := (sSeq (sIf (tOR (tNo (tBl (dUn (isD1 .tuple) (dVar 4)))) (tBl (dOp eqD (dVar 4) (dTup aNil)))) (sRet (dC (.bl false))) sNext)
  (sSeq (sIf (tNo (tBl (dCb allD (aCons (dFz (oLc (iSeq (dVar 4)) (gdName 8) tdYes (dCall F_meets_at (aCons (dVar 0) (aCons (dVar 1) (aCons (dVar 2) (aCons (dVar 8) (aCons (dC .non) aNil)))))) [8])) aNil)))) (sRet (dC (.bl false))) sNext)
  (sSeq (sIf (tNo (tBl (dCb allD (aCons (dFz (oLc (iZp (aCons (dVar 4) (aCons (dSl (dVar 4) (pSome (dC (.int 1))) pNo) aNil))) (gdTup 2 (gdCons (gdName 6) (gdCons (gdName 7) gdNil))) tdYes (dOp ltD (dVar 6) (dVar 7)) [6, 7])) aNil)))) (sRet (dC (.bl false))) sNext)
  (sSeq (sSet 5 (dOp addD (dSl (dVar 4) (pSome (dC (.int 1))) pNo) (dTup (aCons (dOp addD (dOp idxD (dVar 4) (dC (.int 0))) (dCall F_together_in (aCons (dVar 0) (aCons (dVar 1) aNil)))) aNil))))
  (sRet (dCb allD (aCons (dFz (oLc (iZp (aCons (dVar 4) (aCons (dVar 5) aNil))) (gdTup 2 (gdCons (gdName 6) (gdCons (gdName 7) gdNil))) tdYes (dOp leD (dOp subD (dVar 7) (dVar 6)) (dVar 3)) [6, 7])) aNil)))))))
abbrev F_is_close_row : FF := runP 9 5 D_is_close_row
def D_is_code : SD := (sRet (dCall F_is_code_in (aCons (dVar 0) aNil)))
abbrev F_is_code : FF := runP 1 1 D_is_code
def D_is_counting_bar : SD := (sSeq (sAsg (dCall F_sure_two (aCons (dVar 0) (aCons (dVar 1) aNil))) (gdTup 2 (gdCons (gdName 3) (gdCons (gdName 4) gdNil))))
  (sRet (dAnd (dCall F_is_number (aCons (dVar 2) aNil)) (dOp inD (dVar 2) (dCall F_bars_in (aCons (dVar 3) (aCons (dVar 4) aNil)))))))
abbrev F_is_counting_bar : FF := runP 5 3 D_is_counting_bar
def D_is_even : SD := (sSeq (sSet 1 (dCall F_sure_hops (aCons (dVar 0) aNil)))
  (sSeq (sSet 2 (dFz (oLc (iSeq (dCall F_channels_in (aCons (dVar 1) aNil))) (gdName 3) tdYes (dCb lenD (aCons (dCall F_slots_in (aCons (dVar 1) (aCons (dVar 3) aNil))) aNil)) [3])))
  (sRet (dOp eqD (dCb minL (aCons (dVar 2) aNil)) (dCb maxL (aCons (dVar 2) aNil))))))
abbrev F_is_even : FF := runP 4 1 D_is_even
def D_is_long_row : SD := (sRet (dAnd (dCall F_is_row_in (aCons (dVar 0) aNil)) (dOp leD (dCb lenD (aCons (dVar 0) aNil)) (dC (.int 1000)))))
abbrev F_is_long_row : FF := runP 1 1 D_is_long_row
def D_is_lot_in : SD := (sSeq (sIf (tOR (tNo (tBl (dCall F_is_long (aCons (dVar 0) (aCons (dC (.int 2)) aNil))))) (tOR (tNo (tBl (dCall F_is_within (aCons (dOp idxD (dVar 0) (dC (.int 0))) (aCons (dC (.int 2)) (aCons (dC (.int 397)) aNil)))))) (tNo (tBl (dCall F_is_prime_in (aCons (dOp idxD (dVar 0) (dC (.int 0))) aNil)))))) (sRet (dC (.bl false))) sNext)
  (sSeq (sSet 1 (dOp idxD (dVar 0) (dC (.int 1))))
  (sSeq (sIf (tOR (tNo (tBl (dUn (isD1 .tuple) (dVar 1)))) (tOR (tBl (dOp eqD (dVar 1) (dTup aNil))) (tBl (dOp gtD (dCb lenD (aCons (dVar 1) aNil)) (dOp idxD (dVar 0) (dC (.int 0))))))) (sRet (dC (.bl false))) sNext)
  (sSeq (sIf (tNo (tBl (dCb allD (aCons (dFz (oLc (iSeq (dVar 1)) (gdName 4) tdYes (dCall F_is_within (aCons (dVar 4) (aCons (dC (.int 0)) (aCons (dC (.int 30)) aNil)))) [4])) aNil)))) (sRet (dC (.bl false))) sNext)
  (sRet (dCb allD (aCons (dFz (oLc (iZp (aCons (dVar 1) (aCons (dSl (dVar 1) (pSome (dC (.int 1))) pNo) aNil))) (gdTup 2 (gdCons (gdName 2) (gdCons (gdName 3) gdNil))) tdYes (dOp ltD (dVar 2) (dVar 3)) [2, 3])) aNil)))))))
abbrev F_is_lot_in : FF := runP 5 1 D_is_lot_in
def D_is_piece : SD := (sRet (dAnd (dUn (isD1 .str) (dVar 0)) (dAnd (dOp neD (dVar 0) (dC (.str ""))) (dCb allD (aCons (dFz (oLc (iSeq (dVar 0)) (gdName 1) tdYes (dAnd (dChain leD leD (dC (.str "!")) (dVar 1) (dC (.str "~"))) (dOp neD (dVar 1) (dC (.str "#")))) [1])) aNil)))))
abbrev F_is_piece : FF := runP 2 1 D_is_piece
def D_sure_many : SD := (sRet (dCall F_sure_within (aCons (dVar 0) (aCons (dC (.int 1)) (aCons (dVar 1) aNil)))))
abbrev F_sure_many : FF := runP 2 2 D_sure_many
def D_is_small_row : SD := (sRet (dAnd (dCall F_is_row_in (aCons (dVar 0) aNil)) (dOp leD (dCb lenD (aCons (dVar 0) aNil)) (dC (.int 400)))))
abbrev F_is_small_row : FF := runP 1 1 D_is_small_row
def D_jump_bound : SD := (sRet (dOp mulD (dC (.int 3)) (dCall F_sure_prime (aCons (dVar 0) aNil))))
abbrev F_jump_bound : FF := runP 1 1 D_jump_bound
def D_jump_row : SD := (sSeq (sSet 3 (dCall F_sure_prime (aCons (dVar 0) aNil)))
  (sSeq (sSet 4 (dCall F_sure_clock (aCons (dVar 3) (aCons (dVar 1) aNil))))
  (sSeq (sSet 5 (dCall F_sure_within (aCons (dVar 2) (aCons (dC (.int 0)) (aCons (dOp subD (dVar 3) (dC (.int 1))) aNil)))))
  (sSeq (sIf (tBl (dOp eqD (dOp idxD (dVar 4) (dC (.int 0))) (dC (.int 0)))) (sRaise "Unfit") sNext)
  (sRet (dOp addD (dOp mulD (dCall F_clock_in (aCons (dVar 3) (aCons (dOp idxD (dVar 4) (dC (.int 0))) (aCons (dOp idxD (dVar 4) (dC (.int 1))) aNil)))) (dC (.int 2))) (dOp mulD (dTup (aCons (dVar 5) aNil)) (dVar 3))))))))
abbrev F_jump_row : FF := runP 6 3 D_jump_row
def D_jump_for : SD := (sSeq (sSet 2 (dCall F_sure_within (aCons (dVar 0) (aCons (dC (.int 1)) (aCons (dOp addD (dC (.int 30)) (dC (.int 1))) aNil)))))
  (sSeq (sSet 3 (dCall F_sure_within (aCons (dVar 1) (aCons (dC (.int 1)) (aCons (dC (.int 30)) aNil)))))
  (sSeq (sSet 4 (dOp idxD (dFz (oLc (iR2 (aCons (dC (.int 2)) (aCons (dOp addD (dC (.int 31)) (dC (.int 1))) aNil))) (gdName 5) (tAn (tBl (dOp geD (dVar 5) (dVar 2))) (tBl (dCall F_is_prime_in (aCons (dVar 5) aNil)))) (dVar 5) [5])) (dC (.int 0))))
  (sSeq (sIf (tBl (dOp geD (dVar 3) (dVar 4))) (sRaise "CanNot") sNext)
  (sRet (dCall F_folded (aCons (dCall F_jump_row (aCons (dVar 4) (aCons (dTup (aCons (dVar 3) (aCons (dC (.int 0)) aNil))) (aCons (dVar 3) aNil)))) (aCons (dVar 2) aNil))))))))
abbrev F_jump_for : FF := runP 6 2 D_jump_for
def D_least_parts : SD := (sSeq (sSet 1 (dCall F_sure_within (aCons (dVar 0) (aCons (dC (.int 1)) (aCons (dC (.int 20)) aNil)))))
  (sRet (dOp mulD (dVar 1) (dVar 1))))
abbrev F_least_parts : FF := runP 2 1 D_least_parts
def D_least_round : SD := (sRet (dCall F_least_in (aCons (dCall F_sure_hops (aCons (dVar 0) aNil)) aNil)))
abbrev F_least_round : FF := runP 1 1 D_least_round
def D_least_turned : SD := (sSeq (sSet 1 (dCall F_least_in (aCons (dCall F_sure_hops (aCons (dVar 0) aNil)) aNil)))
  (sRet (dCb minL (aCons (dFz (oLc (iR1 (aCons (dCb lenD (aCons (dVar 1) aNil)) aNil)) (gdName 2) tdYes (dCall F_moved_in (aCons (dVar 1) (aCons (dVar 2) aNil))) [2])) aNil))))
abbrev F_least_turned : FF := runP 3 1 D_least_turned
def D_load : SD := (sSeq (sSet 2 (dCall F_sure_hops (aCons (dVar 0) aNil)))
  (sRet (dCall F_fraction (aCons (dCb lenD (aCons (dCall F_slots_in (aCons (dVar 2) (aCons (dCall F_sure_channel (aCons (dVar 1) aNil)) aNil))) aNil)) (aCons (dCb lenD (aCons (dVar 2) aNil)) aNil)))))
abbrev F_load : FF := runP 3 2 D_load
def D_loads_apart : SD := (sSeq (sSet 1 (dCall F_sure_hops (aCons (dVar 0) aNil)))
  (sSeq (sSet 2 (dFz (oLc (iSeq (dCall F_channels_in (aCons (dVar 1) aNil))) (gdName 3) tdYes (dCb lenD (aCons (dCall F_slots_in (aCons (dVar 1) (aCons (dVar 3) aNil))) aNil)) [3])))
  (sRet (dCall F_fraction (aCons (dOp subD (dCb maxL (aCons (dVar 2) aNil)) (dCb minL (aCons (dVar 2) aNil))) (aCons (dCb lenD (aCons (dVar 1) aNil)) aNil))))))
abbrev F_loads_apart : FF := runP 4 1 D_loads_apart
def D_longest_stay : SD := (sSeq (sSet 1 (dCall F_sure_hops (aCons (dVar 0) aNil)))
  (sSeq (sIf (tBl (dOp eqD (dCb minL (aCons (dVar 1) aNil)) (dCb maxL (aCons (dVar 1) aNil)))) (sRet (dC (.int 0))) sNext)
  (sSeq (sAsg (dTup (aCons (dC (.int 1)) (aCons (dC (.int 1)) aNil))) (gdTup 2 (gdCons (gdName 2) (gdCons (gdName 3) gdNil))))
  (sSeq (sSet 4 (dOp addD (dVar 1) (dVar 1)))
  (sSeq (sFor (iR2 (aCons (dC (.int 1)) (aCons (dCb lenD (aCons (dVar 4) aNil)) aNil))) (gdName 5) (sSeq (sSet 3 (dIf (tBl (dOp eqD (dOp idxD (dVar 4) (dVar 5)) (dOp idxD (dVar 4) (dOp subD (dVar 5) (dC (.int 1)))))) (dOp addD (dVar 3) (dC (.int 1))) (dC (.int 1))))
  (sSet 2 (dCb max2 (aCons (dVar 2) (aCons (dVar 3) aNil))))))
  (sRet (dVar 2)))))))
abbrev F_longest_stay : FF := runP 6 1 D_longest_stay
def D_lot_in : SD := (sRet (dCb tupD (aCons (dFz (oLc (iR1 (aCons (dOp idxD (dVar 0) (dC (.int 0))) aNil)) (gdName 1) tdYes (dOp idxD (dOp idxD (dVar 0) (dC (.int 1))) (dOp modD (dVar 1) (dCb lenD (aCons (dOp idxD (dVar 0) (dC (.int 1))) aNil)))) [1])) aNil)))
abbrev F_lot_in : FF := runP 2 1 D_lot_in
def D_sure_lot : SD := (sSeq (sSet 1 (dCall F_tupled (aCons (dVar 0) aNil)))
  (sSeq (sIf (tNo (tBl (dCall F_is_lot_in (aCons (dVar 1) aNil)))) (sRaise "Unfit") sNext)
  (sRet (dVar 1))))
abbrev F_sure_lot : FF := runP 2 1 D_sure_lot
def D_lot_row : SD := (sRet (dCall F_lot_in (aCons (dCall F_sure_lot (aCons (dVar 0) aNil)) aNil)))
abbrev F_lot_row : FF := runP 1 1 D_lot_row
def D_shared_by : SD := (sRet (dCb tupD (aCons (dFz (oLc (iSeq (dOp idxD (dVar 0) (dC (.int 1)))) (gdName 2) (tBl (dOp inD (dVar 2) (dOp idxD (dVar 1) (dC (.int 1))))) (dVar 2) [2])) aNil)))
abbrev F_shared_by : FF := runP 3 2 D_shared_by
def D_lots_bound : SD := (sSeq (sSet 2 (dCall F_sure_lot (aCons (dVar 0) aNil)))
  (sSeq (sSet 3 (dCall F_sure_lot (aCons (dVar 1) aNil)))
  (sSeq (sIf (tOR (tBl (dOp eqD (dOp idxD (dVar 2) (dC (.int 0))) (dOp idxD (dVar 3) (dC (.int 0))))) (tBl (dOp eqD (dCall F_shared_by (aCons (dVar 2) (aCons (dVar 3) aNil))) (dTup aNil)))) (sRaise "CanNot") sNext)
  (sRet (dOp mulD (dOp idxD (dVar 2) (dC (.int 0))) (dOp idxD (dVar 3) (dC (.int 0))))))))
abbrev F_lots_bound : FF := runP 4 2 D_lots_bound
def D_met_in : SD := (sSeq (sSetO 3 (oLst aNil))
  (sSeq (sFor (iR1 (aCons (dCall F_together_in (aCons (dVar 0) (aCons (dVar 1) aNil))) aNil)) (gdName 4) (sSeq (sSet 5 (dOp idxD (dVar 0) (dOp modD (dOp addD (dOp idxD (dVar 2) (dC (.int 0))) (dVar 4)) (dCb lenD (aCons (dVar 0) aNil)))))
  (sIf (tBl (dOp eqD (dVar 5) (dOp idxD (dVar 1) (dOp modD (dOp addD (dOp idxD (dVar 2) (dC (.int 1))) (dVar 4)) (dCb lenD (aCons (dVar 1) aNil)))))) (sApp 3 (dVar 5)) sNext)))
  (sRet (dCb tupD (aCons (dFz (oUn ssO (dVar 3))) aNil)))))
abbrev F_met_in : FF := runP 6 3 D_met_in
def D_meet_channels : SD := (sSeq (sAsg (dCall F_sure_two (aCons (dVar 0) (aCons (dVar 1) aNil))) (gdTup 2 (gdCons (gdName 3) (gdCons (gdName 4) gdNil))))
  (sRet (dCall F_met_in (aCons (dVar 3) (aCons (dVar 4) (aCons (dCall F_sure_phases (aCons (dVar 3) (aCons (dVar 4) (aCons (dVar 2) aNil)))) aNil))))))
abbrev F_meet_channels : FF := runP 5 3 D_meet_channels
def D_meeting_row : SD := (sSeq (sAsg (dCall F_sure_two (aCons (dVar 0) (aCons (dVar 1) aNil))) (gdTup 2 (gdCons (gdName 3) (gdCons (gdName 4) gdNil))))
  (sSeq (sSet 5 (dCall F_sure_phases (aCons (dVar 3) (aCons (dVar 4) (aCons (dVar 2) aNil)))))
  (sSeq (sSetO 6 (oLst aNil))
  (sSeq (sFor (iR1 (aCons (dCall F_together_in (aCons (dVar 3) (aCons (dVar 4) aNil))) aNil)) (gdName 7) (sSeq (sSet 8 (dOp idxD (dVar 3) (dOp modD (dOp addD (dOp idxD (dVar 5) (dC (.int 0))) (dVar 7)) (dCb lenD (aCons (dVar 3) aNil)))))
  (sApp 6 (dIf (tBl (dOp eqD (dVar 8) (dOp idxD (dVar 4) (dOp modD (dOp addD (dOp idxD (dVar 5) (dC (.int 1))) (dVar 7)) (dCb lenD (aCons (dVar 4) aNil)))))) (dVar 8) (dC .non)))))
  (sRet (dCb tupD (aCons (dVar 6) aNil)))))))
abbrev F_meeting_row : FF := runP 9 3 D_meeting_row
def D_meetings_many : SD := (sSeq (sAsg (dCall F_sure_two (aCons (dVar 0) (aCons (dVar 1) aNil))) (gdTup 2 (gdCons (gdName 3) (gdCons (gdName 4) gdNil))))
  (sSeq (sSet 5 (dCall F_sure_phases (aCons (dVar 3) (aCons (dVar 4) (aCons (dVar 2) aNil)))))
  (sSeq (sSet 6 (dC (.int 0)))
  (sSeq (sFor (iR1 (aCons (dCall F_together_in (aCons (dVar 3) (aCons (dVar 4) aNil))) aNil)) (gdName 7) (sAug 6 (dCb intD (aCons (dOp eqD (dOp idxD (dVar 3) (dOp modD (dOp addD (dOp idxD (dVar 5) (dC (.int 0))) (dVar 7)) (dCb lenD (aCons (dVar 3) aNil)))) (dOp idxD (dVar 4) (dOp modD (dOp addD (dOp idxD (dVar 5) (dC (.int 1))) (dVar 7)) (dCb lenD (aCons (dVar 4) aNil))))) aNil))))
  (sRet (dVar 6))))))
abbrev F_meetings_many : FF := runP 8 3 D_meetings_many
def D_moved : SD := (sSeq (sSet 2 (dCall F_sure_hops (aCons (dVar 0) aNil)))
  (sRet (dCall F_moved_in (aCons (dVar 2) (aCons (dCall F_sure_within (aCons (dVar 1) (aCons (dUn negD (dC (.int 1000000000))) (aCons (dC (.int 1000000000)) aNil)))) aNil)))))
abbrev F_moved : FF := runP 3 2 D_moved
def D_moved_slots : SD := (sSeq (sSet 3 (dCall F_sure_round (aCons (dVar 0) aNil)))
  (sSeq (sSet 4 (dCall F_sure_slots (aCons (dVar 3) (aCons (dVar 1) aNil))))
  (sSeq (sSet 5 (dCall F_sure_within (aCons (dVar 2) (aCons (dUn negD (dC (.int 400))) (aCons (dC (.int 400)) aNil)))))
  (sRet (dCb tupD (aCons (dFz (oCb sortO (aCons (dFz (oLc (iSeq (dVar 4)) (gdName 6) tdYes (dOp modD (dOp addD (dVar 6) (dVar 5)) (dVar 3)) [6])) aNil))) aNil))))))
abbrev F_moved_slots : FF := runP 7 3 D_moved_slots
def D_ones_in : SD := (sRet (dCb sumD (aCons (dCall F_sure_code (aCons (dVar 0) aNil)) aNil)))
abbrev F_ones_in : FF := runP 1 1 D_ones_in
def D_pair_counts : SD := (sSeq (sAsg (dCall F_sure_two (aCons (dVar 0) (aCons (dVar 1) aNil))) (gdTup 2 (gdCons (gdName 3) (gdCons (gdName 4) gdNil))))
  (sSeq (sSet 5 (dCall F_pairs_in (aCons (dVar 3) (aCons (dVar 4) (aCons (dCall F_sure_phases (aCons (dVar 3) (aCons (dVar 4) (aCons (dVar 2) aNil)))) aNil)))))
  (sRet (dCb tupD (aCons (dFz (oLc (iSeq (dFz (oCb sortDk (aCons (dVar 5) aNil)))) (gdName 6) tdYes (dTup (aCons (dVar 6) (aCons (dOp dgD (dVar 5) (dVar 6)) aNil))) [6])) aNil)))))
abbrev F_pair_counts : FF := runP 7 3 D_pair_counts
def D_pair_length : SD := (sSeq (sSet 1 (dCall F_sure_many (aCons (dVar 0) (aCons (dC (.int 20)) aNil))))
  (sRet (dOp mulD (dVar 1) (dVar 1))))
abbrev F_pair_length : FF := runP 2 1 D_pair_length
def D_rest_slot : SD := (sSeq (sSet 3 (dCall F_sure_round (aCons (dVar 0) aNil)))
  (sSeq (sSet 4 (dCall F_sure_round (aCons (dVar 1) aNil)))
  (sSeq (sSet 5 (dCall F_tupled (aCons (dVar 2) aNil)))
  (sSeq (sIf (tOR (tNo (tBl (dCall F_is_long (aCons (dVar 5) (aCons (dC (.int 2)) aNil))))) (tOR (tNo (tBl (dCall F_is_within (aCons (dOp idxD (dVar 5) (dC (.int 0))) (aCons (dC (.int 0)) (aCons (dOp subD (dVar 3) (dC (.int 1))) aNil)))))) (tNo (tBl (dCall F_is_within (aCons (dOp idxD (dVar 5) (dC (.int 1))) (aCons (dC (.int 0)) (aCons (dOp subD (dVar 4) (dC (.int 1))) aNil)))))))) (sRaise "Unfit") sNext)
  (sSeq (sSet 6 (dCall F_common (aCons (dVar 3) (aCons (dVar 4) aNil))))
  (sSeq (sIf (tBl (dOp neD (dOp modD (dOp subD (dOp idxD (dVar 5) (dC (.int 1))) (dOp idxD (dVar 5) (dC (.int 0)))) (dVar 6)) (dC (.int 0)))) (sRaise "CanNot") sNext)
  (sSeq (sSet 7 (dOp fdivD (dVar 4) (dVar 6)))
  (sSeq (sSet 8 (dOp modD (dOp mulD (dOp fdivD (dOp subD (dOp idxD (dVar 5) (dC (.int 1))) (dOp idxD (dVar 5) (dC (.int 0)))) (dVar 6)) (dCall F_contrary_by (aCons (dOp fdivD (dVar 3) (dVar 6)) (aCons (dVar 7) aNil)))) (dVar 7)))
  (sRet (dOp addD (dOp idxD (dVar 5) (dC (.int 0))) (dOp mulD (dVar 3) (dVar 8))))))))))))
abbrev F_rest_slot : FF := runP 9 3 D_rest_slot
def D_place_slot : SD := (sSeq (sSet 4 (dCall F_sure_round (aCons (dVar 0) aNil)))
  (sSeq (sSet 5 (dCall F_sure_round (aCons (dVar 1) aNil)))
  (sSeq (sSet 6 (dFz (oLst (aCons (dCall F_tupled (aCons (dVar 2) aNil)) (aCons (dCall F_tupled (aCons (dVar 3) aNil)) aNil)))))
  (sSeq (sFor (iSeq (dVar 6)) (gdName 7) (sIf (tOR (tNo (tBl (dCall F_is_long (aCons (dVar 7) (aCons (dC (.int 2)) aNil))))) (tOR (tNo (tBl (dCall F_is_within (aCons (dOp idxD (dVar 7) (dC (.int 0))) (aCons (dC (.int 0)) (aCons (dOp subD (dVar 4) (dC (.int 1))) aNil)))))) (tNo (tBl (dCall F_is_within (aCons (dOp idxD (dVar 7) (dC (.int 1))) (aCons (dC (.int 0)) (aCons (dOp subD (dVar 5) (dC (.int 1))) aNil)))))))) (sRaise "Unfit") sNext))
  (sRet (dCall F_rest_slot (aCons (dVar 4) (aCons (dVar 5) (aCons (dTup (aCons (dOp modD (dOp subD (dOp idxD (dOp idxD (dVar 6) (dC (.int 1))) (dC (.int 0))) (dOp idxD (dOp idxD (dVar 6) (dC (.int 0))) (dC (.int 0)))) (dVar 4)) (aCons (dOp modD (dOp subD (dOp idxD (dOp idxD (dVar 6) (dC (.int 1))) (dC (.int 1))) (dOp idxD (dOp idxD (dVar 6) (dC (.int 0))) (dC (.int 1)))) (dVar 5)) aNil))) aNil)))))))))
abbrev F_place_slot : FF := runP 8 4 D_place_slot
def D_put_behind : SD := (sSeq (sSet 2 (dCall F_sure_hops (aCons (dVar 0) aNil)))
  (sRet (dCall F_sure_long (aCons (dOp addD (dVar 2) (dCall F_sure_hops (aCons (dVar 1) aNil))) aNil))))
abbrev F_put_behind : FF := runP 3 2 D_put_behind
def D_renamed : SD := (sSeq (sSet 2 (dCall F_sure_hops (aCons (dVar 0) aNil)))
  (sSeq (sSet 3 (dCall F_tupled (aCons (dVar 1) aNil)))
  (sSeq (sIf (tOR (tNo (tBl (dUn (isD1 .tuple) (dVar 3)))) (tNo (tBl (dCb allD (aCons (dFz (oLc (iSeq (dVar 3)) (gdName 5) tdYes (dCall F_is_within (aCons (dVar 5) (aCons (dC (.int 0)) (aCons (dC (.int 30)) aNil)))) [5])) aNil))))) (sRaise "Unfit") sNext)
  (sSeq (sIf (tBl (dOp geD (dCb maxL (aCons (dVar 2) aNil)) (dCb lenD (aCons (dVar 3) aNil)))) (sRaise "CanNot") sNext)
  (sRet (dCb tupD (aCons (dFz (oLc (iSeq (dVar 2)) (gdName 4) tdYes (dOp idxD (dVar 3) (dVar 4)) [4])) aNil)))))))
abbrev F_renamed : FF := runP 6 2 D_renamed
def D_row_changed : SD := (sSeq (sIf (tBl (dOp eqD (dVar 0) (dC (.str "move")))) (sRet (dCall F_moved_in (aCons (dVar 1) (aCons (dOp idxD (dVar 2) (dC (.int 0))) aNil)))) sNext)
  (sSeq (sIf (tBl (dOp eqD (dVar 0) (dC (.str "turn")))) (sRet (dUn downD (dVar 1))) sNext)
  (sSeq (sIf (tBl (dOp eqD (dVar 0) (dC (.str "stretch")))) (sRet (dCb tupD (aCons (dFz (oLc (iR1 (aCons (dOp mulD (dCb lenD (aCons (dVar 1) aNil)) (dOp idxD (dVar 2) (dC (.int 0)))) aNil)) (gdName 3) tdYes (dOp idxD (dVar 1) (dOp fdivD (dVar 3) (dOp idxD (dVar 2) (dC (.int 0))))) [3])) aNil))) sNext)
  (sSeq (sIf (tBl (dOp eqD (dVar 0) (dC (.str "fold")))) (sRet (dCb tupD (aCons (dFz (oLc (iSeq (dVar 1)) (gdName 4) tdYes (dOp modD (dVar 4) (dOp idxD (dVar 2) (dC (.int 0)))) [4])) aNil))) sNext)
  (sRet (dIf (tBl (dOp eqD (dVar 0) (dC (.str "behind")))) (dOp addD (dVar 1) (dOp idxD (dVar 2) (dC (.int 0)))) (dCall F_least_in (aCons (dVar 1) aNil))))))))
abbrev F_row_changed : FF := runP 5 3 D_row_changed
def D_row_made : SD := (sSeq (sIf (tBl (dOp eqD (dVar 0) (dC (.str "row")))) (sRet (dVar 1)) sNext)
  (sSeq (sIf (tBl (dOp eqD (dVar 0) (dC (.str "stay")))) (sRet (dVar 1)) sNext)
  (sSeq (sIf (tOR (tNo (tBl (dCall F_is_prime_in (aCons (dOp idxD (dVar 1) (dC (.int 0))) aNil)))) (tNo (tBl (dCb allD (aCons (dFz (oLc (iSeq (dSl (dVar 1) (pSome (dC (.int 1))) pNo)) (gdName 3) tdYes (dOp ltD (dVar 3) (dOp idxD (dVar 1) (dC (.int 0)))) [3])) aNil))))) (sRet (dC .non)) sNext)
  (sSeq (sSet 2 (dCall F_clock_in (aCons (dOp idxD (dVar 1) (dC (.int 0))) (aCons (dOp idxD (dVar 1) (dC (.int 1))) (aCons (dOp idxD (dVar 1) (dC (.int 2))) aNil)))))
  (sSeq (sIf (tBl (dOp eqD (dVar 0) (dC (.str "clock")))) (sRet (dVar 2)) sNext)
  (sRet (dIf (tBl (dOp eqD (dOp idxD (dVar 1) (dC (.int 1))) (dC (.int 0)))) (dC .non) (dOp addD (dOp mulD (dVar 2) (dC (.int 2))) (dOp mulD (dTup (aCons (dOp idxD (dVar 1) (dC (.int 3))) aNil)) (dOp idxD (dVar 1) (dC (.int 0))))))))))))
abbrev F_row_made : FF := runP 4 2 D_row_made
def D_shared_channels : SD := (sSeq (sAsg (dCall F_sure_two (aCons (dVar 0) (aCons (dVar 1) aNil))) (gdTup 2 (gdCons (gdName 2) (gdCons (gdName 3) gdNil))))
  (sRet (dCall F_shared_in (aCons (dVar 2) (aCons (dVar 3) aNil)))))
abbrev F_shared_channels : FF := runP 4 2 D_shared_channels
def D_sure_silent : SD := (sSeq (sSet 1 (dCall F_tupled (aCons (dVar 0) aNil)))
  (sSeq (sIf (tOR (tNo (tBl (dUn (isD1 .tuple) (dVar 1)))) (tNo (tBl (dCb allD (aCons (dFz (oLc (iSeq (dVar 1)) (gdName 4) tdYes (dCall F_is_within (aCons (dVar 4) (aCons (dC (.int 0)) (aCons (dC (.int 30)) aNil)))) [4])) aNil))))) (sRaise "Unfit") sNext)
  (sSeq (sIf (tNo (tBl (dCb allD (aCons (dFz (oLc (iZp (aCons (dVar 1) (aCons (dSl (dVar 1) (pSome (dC (.int 1))) pNo) aNil))) (gdTup 2 (gdCons (gdName 2) (gdCons (gdName 3) gdNil))) tdYes (dOp ltD (dVar 2) (dVar 3)) [2, 3])) aNil)))) (sRaise "Unfit") sNext)
  (sRet (dVar 1)))))
abbrev F_sure_silent : FF := runP 5 1 D_sure_silent
def D_slots_of : SD := (sSeq (sSet 2 (dCall F_sure_hops (aCons (dVar 0) aNil)))
  (sRet (dCall F_slots_in (aCons (dVar 2) (aCons (dCall F_sure_channel (aCons (dVar 1) aNil)) aNil)))))
abbrev F_slots_of : FF := runP 3 2 D_slots_of
def D_stay_row : SD := (sRet (dTup (aCons (dCall F_sure_channel (aCons (dVar 0) aNil)) aNil)))
abbrev F_stay_row : FF := runP 1 1 D_stay_row
def D_staying_on : SD := (sSeq (sSet 2 (dCall F_sure_within (aCons (dVar 0) (aCons (dC (.int 1)) (aCons (dC (.int 20)) aNil)))))
  (sSeq (sSet 3 (dCall F_sure_within (aCons (dVar 1) (aCons (dC (.int 1)) (aCons (dC (.int 20)) aNil)))))
  (sRet (dCb tupD (aCons (dFz (oLc (iR1 (aCons (dOp mulD (dVar 2) (dVar 3)) aNil)) (gdName 4) tdYes (dOp fdivD (dVar 4) (dVar 3)) [4])) aNil)))))
abbrev F_staying_on : FF := runP 5 2 D_staying_on
def D_sure_text : SD := (sSeq (sIf (tOR (tNo (tBl (dUn (isD1 .str) (dVar 0)))) (tBl (dOp gtD (dCb lenD (aCons (dVar 0) aNil)) (dC (.int 200000))))) (sRaise "Unfit") sNext)
  (sRet (dVar 0)))
abbrev F_sure_text : FF := runP 1 1 D_sure_text
def D_times_slots : SD := (sSeq (sSet 3 (dCall F_sure_round (aCons (dVar 0) aNil)))
  (sSeq (sSet 4 (dCall F_sure_slots (aCons (dVar 3) (aCons (dVar 1) aNil))))
  (sSeq (sSet 5 (dCall F_sure_within (aCons (dVar 2) (aCons (dC (.int 0)) (aCons (dC (.int 400)) aNil)))))
  (sRet (dCb tupD (aCons (dFz (oUn ssO (dFz (oLc (iSeq (dVar 4)) (gdName 6) tdYes (dOp modD (dOp mulD (dVar 6) (dVar 5)) (dVar 3)) [6])))) aNil))))))
abbrev F_times_slots : FF := runP 7 3 D_times_slots
def D_turned_about : SD := (sRet (dUn downD (dCall F_sure_hops (aCons (dVar 0) aNil))))
abbrev F_turned_about : FF := runP 1 1 D_turned_about
def D_turning_between : SD := (sSeq (sAsg (dCall F_sure_codes (aCons (dVar 0) (aCons (dVar 1) aNil))) (gdTup 2 (gdCons (gdName 2) (gdCons (gdName 3) gdNil))))
  (sSeq (sSet 4 (dFz (oLc (iR1 (aCons (dCb lenD (aCons (dVar 2) aNil)) aNil)) (gdName 5) (tBl (dOp eqD (dCall F_turned_code (aCons (dVar 2) (aCons (dVar 5) aNil))) (dVar 3))) (dVar 5) [5])))
  (sSeq (sIf (tBl (dOp eqD (dVar 4) (dFz (oLst aNil)))) (sRaise "CanNot") sNext)
  (sRet (dOp idxD (dVar 4) (dC (.int 0)))))))
abbrev F_turning_between : FF := runP 6 2 D_turning_between
def D_waiting : SD := (sSeq (sSet 1 (dCall F_sure_within (aCons (dVar 0) (aCons (dC (.int 1)) (aCons (dC (.int 20)) aNil)))))
  (sRet (dCb tupD (aCons (dFz (oLc (iR1 (aCons (dOp mulD (dVar 1) (dVar 1)) aNil)) (gdName 2) tdYes (dOp fdivD (dVar 2) (dVar 1)) [2])) aNil))))
abbrev F_waiting : FF := runP 3 1 D_waiting
def D_woven : SD := (sSeq (sSet 2 (dCall F_sure_hops (aCons (dVar 0) aNil)))
  (sSeq (sSet 3 (dCall F_sure_hops (aCons (dVar 1) aNil)))
  (sSeq (sSet 4 (dCall F_together_in (aCons (dVar 2) (aCons (dVar 3) aNil))))
  (sSeq (sIf (tBl (dOp gtD (dOp mulD (dC (.int 2)) (dVar 4)) (dC (.int 400)))) (sRaise "CanNot") sNext)
  (sSeq (sSet 5 (dTup aNil))
  (sSeq (sFor (iR1 (aCons (dVar 4) aNil)) (gdName 6) (sSet 5 (dOp addD (dVar 5) (dTup (aCons (dOp idxD (dVar 2) (dOp modD (dVar 6) (dCb lenD (aCons (dVar 2) aNil)))) (aCons (dOp idxD (dVar 3) (dOp modD (dVar 6) (dCb lenD (aCons (dVar 3) aNil)))) aNil))))))
  (sRet (dVar 5))))))))
abbrev F_woven : FF := runP 7 2 D_woven
end WK

set_option Elab.async false
set_option linter.all false
set_option maxRecDepth 100000
set_option maxHeartbeats 2000000
namespace WK
open PySem PySem.Spec PyProof.Rows L2 DL
def U__law_cells (script : D) (most : D) : FR D :=
  intU most fun n => (o2f (slD none (some n) script)).bind fun z => (o2f (listO [z])).bind fun z_1 => FR.bind (orU z_1 (.ok [(D.int 0)])) fun cells_1 => intU most fun n_1 => intU (D.int 63) fun n_2 => (o2f (slD (some n_1) (some n_2) script)).bind fun z_2 => (o2f (enU [z_2])).bind fun l => (foldU (fun x s => un2 x fun k_ bit => (o2f (intD [k_])).bind fun z_3 => (o2f (modD z_3 most)).bind fun at__1 => (o2f (idxD (.lst s) at__1)).bind fun z_4 => (o2f (addD k_ (D.int 2))).bind fun z_5 => (o2f (mulD bit z_5)).bind fun z_6 => (o2f (addD z_4 z_6)).bind fun z_7 => (putU s at__1 z_7).bind fun cells_2 => .ok cells_2) l cells_1).bind fun s_1 => .ok (D.lst s_1)
abbrev L__law_cells : List D → FR D := fun xs => match xs with
  | [script, most] => U__law_cells script most
  | _ => .bad
def U__law_shared (one : D) (two : D) : FR D :=
  seqU one fun l => (lcF (fun own => (o2f (inD own two)).bind fun z_1 => boolU z_1 fun b => bif b then .ok (some own) else .ok none) l).bind fun z => (o2f (ssO (D.lst z))).bind fun z_2 => (o2f (tupD [(D.lst z_2)])).bind fun z_3 => .ok z_3
abbrev L__law_shared : List D → FR D := fun xs => match xs with
  | [one, two] => U__law_shared one two
  | _ => .bad
def U__law_common (one : D) (two : D) : FR D :=
  (o2f (absD [one])).bind fun z => (o2f (absD [two])).bind fun z_1 => (o2f (rg1 [(D.int 400)])).bind fun l => aftU (forU (fun lap s => (o2f (eqD s.2 (D.int 0))).bind fun z_2 => boolU z_2 fun b => bif b then .ok (.ret s.1) else (o2f (fdivD s.1 s.2)).bind fun z_3 => (o2f (mulD z_3 s.2)).bind fun z_4 => (o2f (subD s.1 z_4)).bind fun z_5 => .ok (.nx (s.2, z_5))) l (z, z_1)) fun s_1 => .ok D.non
abbrev L__law_common : List D → FR D := fun xs => match xs with
  | [one, two] => U__law_common one two
  | _ => .bad
def U__law_round (one : D) (two : D) : FR D :=
  (o2f (lenD [one])).bind fun z => (o2f (lenD [one])).bind fun z_1 => (o2f (lenD [two])).bind fun z_2 => (U__law_common z_1 z_2).bind fun z_3 => (o2f (fdivD z z_3)).bind fun z_4 => (o2f (lenD [two])).bind fun z_5 => (o2f (mulD z_4 z_5)).bind fun z_6 => .ok z_6
abbrev L__law_round : List D → FR D := fun xs => match xs with
  | [one, two] => U__law_round one two
  | _ => .bad
def U__law_spot (place : D) (many : D) : FR D :=
  (o2f (fdivD place many)).bind fun z => (o2f (mulD z many)).bind fun z_1 => (o2f (subD place z_1)).bind fun z_2 => .ok z_2
abbrev L__law_spot : List D → FR D := fun xs => match xs with
  | [place, many] => U__law_spot place many
  | _ => .bad
def U__law_time (one : D) (two : D) (a : D) (b : D) (channel : D) : FR D :=
  (U__law_round one two).bind fun z => (o2f (rg1 [z])).bind fun l => (findU (fun k_ => (o2f (addD a k_)).bind fun z_1 => (o2f (lenD [one])).bind fun z_2 => (U__law_spot z_1 z_2).bind fun z_3 => (o2f (idxD one z_3)).bind fun own_1 => (o2f (addD b k_)).bind fun z_4 => (o2f (lenD [two])).bind fun z_5 => (U__law_spot z_4 z_5).bind fun z_6 => (o2f (idxD two z_6)).bind fun z_7 => (o2f (eqD own_1 z_7)).bind fun z_8 => boolU z_8 fun b_1 => FR.bind (bif b_1 then (o2f (negD (D.int 1))).bind fun z_9 => (o2f (eqD channel z_9)).bind fun z_10 => boolU z_10 fun b_2 => FR.bind (bif b_2 then .ok true else (o2f (eqD own_1 channel)).bind fun z_11 => boolU z_11 fun b_3 => .ok b_3) fun b_4 => .ok b_4 else .ok false) fun b_5 => bif b_5 then (o2f (addD k_ (D.int 1))).bind fun z_12 => .ok (some z_12) else .ok none) l).els (.ok D.non)
abbrev L__law_time : List D → FR D := fun xs => match xs with
  | [one, two, a, b, channel] => U__law_time one two a b channel
  | _ => .bad
def U__law_times (one : D) (two : D) (channel : D) : FR D :=
  (o2f (lenD [one])).bind fun z => (o2f (rg1 [z])).bind fun l => (foldU (fun a s => (o2f (lenD [two])).bind fun z_1 => (o2f (rg1 [z_1])).bind fun l_1 => (lcU (fun b => (U__law_time one two a b channel).bind fun z_3 => .ok (D.tup [(D.tup [a, b]), z_3])) l_1).bind fun z_2 => (extU s (D.lst z_2)).bind fun found_1 => .ok found_1) l []).bind fun s_1 => .ok (D.lst s_1)
abbrev L__law_times : List D → FR D := fun xs => match xs with
  | [one, two, channel] => U__law_times one two channel
  | _ => .bad
def U__law_worst (one : D) (two : D) (channel : D) : FR D :=
  (U__law_times one two channel).bind fun times_1 => seqU times_1 fun l => (lcF (fun own => (o2f (idxD own (D.int 1))).bind fun z => (o2f (isN z D.non)).bind fun z_1 => boolU z_1 fun b => bif b then (o2f (idxD own (D.int 0))).bind fun z_2 => .ok (some z_2) else .ok none) l).bind fun bars_1 => (o2f (neD (D.lst bars_1) (D.lst []))).bind fun z_3 => boolU z_3 fun b_1 => bif b_1 then (o2f (idxD (D.lst bars_1) (D.int 0))).bind fun z_4 => .ok (D.tup [D.non, z_4]) else seqU times_1 fun l_1 => (lcU (fun own_1 => (o2f (idxD own_1 (D.int 1))).bind fun z_6 => .ok z_6) l_1).bind fun z_5 => (o2f (maxL [(D.lst z_5)])).bind fun most_1 => seqU times_1 fun l_2 => (lcF (fun own_2 => (o2f (idxD own_2 (D.int 1))).bind fun z_8 => (o2f (eqD z_8 most_1)).bind fun z_9 => boolU z_9 fun b_2 => bif b_2 then (o2f (idxD own_2 (D.int 0))).bind fun z_10 => .ok (some z_10) else .ok none) l_2).bind fun z_7 => (o2f (idxD (D.lst z_7) (D.int 0))).bind fun z_11 => .ok (D.tup [most_1, z_11])
abbrev L__law_worst : List D → FR D := fun xs => match xs with
  | [one, two, channel] => U__law_worst one two channel
  | _ => .bad
def U__law_channel_times (one : D) (two : D) : FR (List D) :=
  (U__law_shared one two).bind fun z => seqU z fun l => (lcU (fun c => (U__law_worst one two c).bind fun z_2 => (o2f (idxD z_2 (D.int 0))).bind fun z_3 => .ok (D.tup [c, z_3])) l).bind fun z_1 => .ok z_1
abbrev L__law_channel_times : List D → FR (List D) := fun xs => match xs with
  | [one, two] => U__law_channel_times one two
  | _ => .bad
def U__law_clock (prime : D) (rate : D) (start_ : D) : FR D :=
  (o2f (rg1 [prime])).bind fun l => (lcU (fun k_ => (o2f (mulD rate k_)).bind fun z_1 => (o2f (addD start_ z_1)).bind fun z_2 => (o2f (modD z_2 prime)).bind fun z_3 => .ok z_3) l).bind fun z => (o2f (tupD [(D.lst z)])).bind fun z_4 => .ok z_4
abbrev L__law_clock : List D → FR D := fun xs => match xs with
  | [prime, rate, start_] => U__law_clock prime rate start_
  | _ => .bad
def U__law_common_b (a : D) (b : D) : FR D :=
  (o2f (rg1 [(D.int 200)])).bind fun l => aftU (forU (fun lap s => (o2f (eqD s.2 (D.int 0))).bind fun z => boolU z fun b_1 => bif b_1 then .ok (.bk (s.1, s.2)) else (o2f (modD s.1 s.2)).bind fun z_1 => .ok (.nx (s.2, z_1))) l (a, b)) fun s_1 => .ok s_1.1
abbrev L__law_common_b : List D → FR D := fun xs => match xs with
  | [a, b] => U__law_common_b a b
  | _ => .bad
def U__law_flat (rows : D) : FR D :=
  seqU rows fun l => (foldU (fun own s => (extU s own).bind fun found_1 => .ok found_1) l []).bind fun s_1 => .ok (D.lst s_1)
abbrev L__law_flat : List D → FR D := fun xs => match xs with
  | [rows] => U__law_flat rows
  | _ => .bad
def U__law_fraction (above : D) (below : D) : FR D :=
  (U__law_common above below).bind fun part_1 => (o2f (fdivD above part_1)).bind fun z => (o2f (fdivD below part_1)).bind fun z_1 => .ok (D.tup [z, z_1])
abbrev L__law_fraction : List D → FR D := fun xs => match xs with
  | [above, below] => U__law_fraction above below
  | _ => .bad
def U__law_full (one : D) (two : D) : FR D :=
  (U__law_channel_times one two).bind fun z => (lcU (fun own => (o2f (idxD own (D.int 1))).bind fun z_1 => .ok z_1) z).bind fun times_1 => (o2f (eqD (D.lst times_1) (D.lst []))).bind fun z_2 => boolU z_2 fun b => FR.bind (bif b then .ok true else (o2f (inD D.non (D.lst times_1))).bind fun z_3 => boolU z_3 fun b_1 => .ok b_1) fun b_2 => FR.bind (bif b_2 then .ok D.non else (o2f (maxL [(D.lst times_1)])).bind fun z_4 => .ok z_4) fun z_5 => .ok z_5
abbrev L__law_full : List D → FR D := fun xs => match xs with
  | [one, two] => U__law_full one two
  | _ => .bad
def U__law_gaps (long : D) (one : D) (two : D) : FR D :=
  (o2f (repL (D.lst [(D.int 0)]) long)).bind fun found_1 => seqU one fun l => (foldU (fun a s => seqU two fun l_1 => (foldU (fun b s_2 => (o2f (subD a b)).bind fun z => (o2f (modD z long)).bind fun z_1 => (o2f (idxD (.lst s_2) z_1)).bind fun z_2 => (o2f (addD z_2 (D.int 1))).bind fun z_3 => (o2f (subD a b)).bind fun z_4 => (o2f (modD z_4 long)).bind fun z_5 => (putU s_2 z_5 z_3).bind fun found_2 => .ok found_2) l_1 s).bind fun s_3 => .ok s_3) l found_1).bind fun s_1 => .ok (D.lst s_1)
abbrev L__law_gaps : List D → FR D := fun xs => match xs with
  | [long, one, two] => U__law_gaps long one two
  | _ => .bad
def U__law_take (tin : List D) (below : D) : FR (D × List D) :=
  (o2f (idxD (.lst tin) (D.int 0))).bind fun z => (o2f (gtD z (D.int 0))).bind fun z_1 => boolU z_1 fun b => bif b then (o2f (idxD (.lst tin) (D.int 0))).bind fun z_2 => (o2f (intD [z_2])).bind fun z_3 => (o2f (modD z_3 below)).bind fun drawn_1 => (o2f (idxD (.lst tin) (D.int 0))).bind fun z_4 => (o2f (fdivD z_4 below)).bind fun z_5 => (putU tin (D.int 0) z_5).bind fun tin_1 => .ok (drawn_1, tin_1) else (o2f (idxD (.lst tin) (D.int 2))).bind fun z_6 => (o2f (addD z_6 (D.int 1))).bind fun z_7 => (putU tin (D.int 2) z_7).bind fun tin_2 => (o2f (idxD (.lst tin_2) (D.int 1))).bind fun z_8 => (o2f (idxD (.lst tin_2) (D.int 2))).bind fun z_9 => (o2f (mulD (D.int 48271) z_9)).bind fun z_10 => (o2f (addD z_8 z_10)).bind fun z_11 => (o2f (idxD (.lst tin_2) (D.int 2))).bind fun z_12 => (o2f (addD (D.int 39373) z_12)).bind fun z_13 => (o2f (mulD z_11 z_13)).bind fun z_14 => (o2f (intD [z_14])).bind fun z_15 => (o2f (modD z_15 (D.int 2147483647))).bind fun once_1 => (o2f (intD [once_1])).bind fun z_16 => (o2f (modD z_16 (D.int 40009))).bind fun z_17 => (o2f (addD z_17 (D.int 7))).bind fun wide_1 => (o2f (idxD (.lst tin_2) (D.int 2))).bind fun z_18 => (o2f (addD once_1 z_18)).bind fun z_19 => (o2f (idxD (.lst tin_2) (D.int 1))).bind fun z_20 => (o2f (fdivD z_20 (D.int 1000003))).bind fun z_21 => (o2f (addD z_19 z_21)).bind fun z_22 => (o2f (mulD z_22 wide_1)).bind fun z_23 => (o2f (intD [z_23])).bind fun z_24 => (o2f (modD z_24 (D.int 2147483629))).bind fun twice_1 => (o2f (mulD twice_1 (D.int 48271))).bind fun z_25 => (o2f (addD z_25 once_1)).bind fun z_26 => (o2f (intD [z_26])).bind fun z_27 => (o2f (modD z_27 (D.int 2147483587))).bind fun z_28 => (o2f (fdivD z_28 (D.int 64))).bind fun z_29 => (o2f (intD [z_29])).bind fun z_30 => (o2f (modD z_30 below)).bind fun z_31 => .ok (z_31, tin_2)
abbrev L__law_take : List D → List D → FR (D × List D) := fun tin xs => match xs with
  | [below] => U__law_take tin below
  | _ => .bad
def U__law_hops (tin : List D) (long : D) (channels : D) : FR (D × List D) :=
  (U__law_take tin long).bindN fun r => (o2f (addD (D.int 1) r.1)).bind fun z => (o2f (rg1 [z])).bind fun l => (lcT (fun k_ t_1 => (U__law_take t_1 channels).bindN fun r_2 => .ok (r_2.1, r_2.2)) l r.2).bind fun r_1 => (o2f (tupD [(D.lst r_1.1)])).bind fun z_1 => .ok (z_1, r_1.2)
abbrev L__law_hops : List D → List D → FR (D × List D) := fun tin xs => match xs with
  | [long, channels] => U__law_hops tin long channels
  | _ => .bad
def U__law_is_int (k_ : D) : FR D :=
  (o2f ((isD1 .int) k_)).bind fun z => boolU z fun b => FR.bind (bif b then (o2f ((isD1 .bool) k_)).bind fun z_1 => (o2f (notD z_1)).bind fun z_2 => .ok z_2 else .ok (D.bl false)) fun z_3 => .ok z_3
abbrev L__law_is_int : List D → FR D := fun xs => match xs with
  | [k_] => U__law_is_int k_
  | _ => .bad
def W__law_lists (F : List D → FR D) (matter : D) : FR D :=
  (o2f ((isD2 .list .tuple) matter)).bind fun z => boolU z fun b => FR.bind (bif b then seqU matter fun l => (lcU (fun bit => ((F [bit])).bind fun z_2 => .ok z_2) l).bind fun z_1 => .ok (D.lst z_1) else .ok matter) fun z_3 => .ok z_3
def UR__law_lists : Nat → List D → FR D
  | 0 => fun _ => .bad
  | n + 1 => fun xs => match xs with
    | [matter] => W__law_lists (UR__law_lists n) matter
    | _ => .bad
abbrev U__law_lists (matter : D) : FR D := UR__law_lists 10 [matter]
abbrev L__law_lists : List D → FR D := UR__law_lists 10
def U__law_met (one : D) (two : D) (a : D) (b : D) : FR (List D) :=
  (U__law_round one two).bind fun z => (o2f (rg1 [z])).bind fun l => (lcF (fun k_ => (o2f (addD a k_)).bind fun z_2 => (o2f (lenD [one])).bind fun z_3 => (U__law_spot z_2 z_3).bind fun z_4 => (o2f (idxD one z_4)).bind fun z_5 => (o2f (addD b k_)).bind fun z_6 => (o2f (lenD [two])).bind fun z_7 => (U__law_spot z_6 z_7).bind fun z_8 => (o2f (idxD two z_8)).bind fun z_9 => (o2f (eqD z_5 z_9)).bind fun z_10 => boolU z_10 fun b_1 => bif b_1 then .ok (some k_) else .ok none) l).bind fun z_1 => .ok z_1
abbrev L__law_met : List D → FR (List D) := fun xs => match xs with
  | [one, two, a, b] => U__law_met one two a b
  | _ => .bad
def U__law_of (tin : List D) (goods : D) : FR (D × List D) :=
  (o2f (lenD [goods])).bind fun z => (U__law_take tin z).bindN fun r => (o2f (idxD goods r.1)).bind fun z_1 => .ok (z_1, r.2)
abbrev L__law_of : List D → List D → FR (D × List D) := fun tin xs => match xs with
  | [goods] => U__law_of tin goods
  | _ => .bad
def U__law_or_bar (found : D) : FR D :=
  (o2f (isN found D.non)).bind fun z => boolU z fun b => FR.bind (bif b then .ok (D.lst [(D.str "can not"), (D.bl true)]) else .ok found) fun z_1 => .ok z_1
abbrev L__law_or_bar : List D → FR D := fun xs => match xs with
  | [found] => U__law_or_bar found
  | _ => .bad
def U__law_row (tin : List D) (most : D) (many : D) : FR (D × List D) :=
  (U__law_take tin most).bindN fun r => (o2f (addD (D.int 1) r.1)).bind fun z => (o2f (rg1 [z])).bind fun l => (lcT (fun k_ t_1 => (U__law_take t_1 many).bindN fun r_2 => .ok (r_2.1, r_2.2)) l r.2).bind fun r_1 => (o2f (tupD [(D.lst r_1.1)])).bind fun z_1 => .ok (z_1, r_1.2)
abbrev L__law_row : List D → List D → FR (D × List D) := fun tin xs => match xs with
  | [most, many] => U__law_row tin most many
  | _ => .bad
def W__law_same (F : List D → FR D) (got : D) (due : D) : FR D :=
  (o2f ((isD2 .list .tuple) due)).bind fun z => boolU z fun b => bif b then (o2f ((isD1 .list) got)).bind fun z_1 => (o2f ((isD1 .list) due)).bind fun z_2 => (o2f (neD z_1 z_2)).bind fun z_3 => boolU z_3 fun b_1 => FR.bind (bif b_1 then .ok true else (o2f ((isD1 .tuple) got)).bind fun z_4 => (o2f ((isD1 .tuple) due)).bind fun z_5 => (o2f (neD z_4 z_5)).bind fun z_6 => boolU z_6 fun b_2 => .ok b_2) fun b_3 => bif b_3 then .ok (D.bl false) else (o2f (lenD [got])).bind fun z_7 => (o2f (lenD [due])).bind fun z_8 => (o2f (eqD z_7 z_8)).bind fun z_9 => boolU z_9 fun b_4 => FR.bind (bif b_4 then (o2f (zpU [got, due])).bind fun l => (lcU (fun x => un2 x fun mine its => ((F [mine, its])).bind fun z_11 => .ok z_11) l).bind fun z_10 => (o2f (allD [(D.lst z_10)])).bind fun z_12 => .ok z_12 else .ok (D.bl false)) fun z_13 => .ok z_13 else (o2f (isN due D.non)).bind fun z_14 => boolU z_14 fun b_5 => bif b_5 then (o2f (isN got D.non)).bind fun z_15 => .ok z_15 else (o2f ((isD2 .bool .str) due)).bind fun z_16 => boolU z_16 fun b_6 => bif b_6 then (o2f ((isD1 .bool) got)).bind fun z_17 => (o2f ((isD1 .bool) due)).bind fun z_18 => (o2f (eqD z_17 z_18)).bind fun z_19 => boolU z_19 fun b_8 => FR.bind (bif b_8 then (o2f ((isD1 .str) got)).bind fun z_20 => (o2f ((isD1 .str) due)).bind fun z_21 => (o2f (eqD z_20 z_21)).bind fun z_22 => boolU z_22 fun b_7 => FR.bind (bif b_7 then (o2f (eqD got due)).bind fun z_23 => .ok z_23 else .ok (D.bl false)) fun z_24 => .ok z_24 else .ok (D.bl false)) fun z_25 => .ok z_25 else (o2f ((isD1 .int) got)).bind fun z_26 => boolU z_26 fun b_10 => FR.bind (bif b_10 then (o2f ((isD1 .bool) got)).bind fun z_27 => (o2f (notD z_27)).bind fun z_28 => boolU z_28 fun b_9 => FR.bind (bif b_9 then (o2f (eqD got due)).bind fun z_29 => .ok z_29 else .ok (D.bl false)) fun z_30 => .ok z_30 else .ok (D.bl false)) fun z_31 => .ok z_31
def UR__law_same : Nat → List D → FR D
  | 0 => fun _ => .bad
  | n + 1 => fun xs => match xs with
    | [got, due] => W__law_same (UR__law_same n) got due
    | _ => .bad
abbrev U__law_same (got : D) (due : D) : FR D := UR__law_same 10 [got, due]
abbrev L__law_same : List D → FR D := UR__law_same 10
def U__law_set (goods : D) : FR D :=
  (o2f (ssO goods)).bind fun z => (o2f (tupD [(D.lst z)])).bind fun z_1 => .ok z_1
abbrev L__law_set : List D → FR D := fun xs => match xs with
  | [goods] => U__law_set goods
  | _ => .bad
def U__law_slots (row : D) (channel : D) : FR D :=
  (o2f (enU [row])).bind fun l => (lcF (fun x => un2 x fun k_ own => (o2f (eqD own channel)).bind fun z_1 => boolU z_1 fun b => bif b then .ok (some k_) else .ok none) l).bind fun z => (o2f (tupD [(D.lst z)])).bind fun z_2 => .ok z_2
abbrev L__law_slots : List D → FR D := fun xs => match xs with
  | [row, channel] => U__law_slots row channel
  | _ => .bad
def U__law_time_b (one : D) (two : D) (a : D) (b : D) (channel : D) : FR D :=
  (o2f (lenD [one])).bind fun z => (o2f (lenD [one])).bind fun z_1 => (o2f (lenD [two])).bind fun z_2 => (U__law_common_b z_1 z_2).bind fun z_3 => (o2f (fdivD z z_3)).bind fun z_4 => (o2f (lenD [two])).bind fun z_5 => (o2f (mulD z_4 z_5)).bind fun many_1 => (o2f (rg1 [many_1])).bind fun l => (findU (fun k_ => (o2f (addD a k_)).bind fun z_6 => (o2f (lenD [one])).bind fun z_7 => (o2f (modD z_6 z_7)).bind fun z_8 => (o2f (idxD one z_8)).bind fun own_1 => (o2f (addD b k_)).bind fun z_9 => (o2f (lenD [two])).bind fun z_10 => (o2f (modD z_9 z_10)).bind fun z_11 => (o2f (idxD two z_11)).bind fun z_12 => (o2f (eqD own_1 z_12)).bind fun z_13 => boolU z_13 fun b_1 => FR.bind (bif b_1 then (o2f (isN channel D.non)).bind fun z_14 => boolU z_14 fun b_2 => FR.bind (bif b_2 then .ok true else (o2f (eqD own_1 channel)).bind fun z_15 => boolU z_15 fun b_3 => .ok b_3) fun b_4 => .ok b_4 else .ok false) fun b_5 => bif b_5 then (o2f (addD k_ (D.int 1))).bind fun z_16 => .ok (some z_16) else .ok none) l).els (.ok D.non)
abbrev L__law_time_b : List D → FR D := fun xs => match xs with
  | [one, two, a, b, channel] => U__law_time_b one two a b channel
  | _ => .bad
def U__law_unmarked (told : D) : FR D :=
  (o2f ((isD1 .list) told)).bind fun z => boolU z fun b => FR.bind (bif b then (o2f (lenD [told])).bind fun z_1 => (o2f (gtD z_1 (D.int 0))).bind fun z_2 => boolU z_2 fun b_1 => FR.bind (bif b_1 then (o2f (idxD told (D.int 0))).bind fun z_3 => (o2f ((isD1 .str) z_3)).bind fun z_4 => boolU z_4 fun b_2 => .ok b_2 else .ok false) fun b_3 => .ok b_3 else .ok false) fun b_4 => FR.bind (bif b_4 then .ok (D.lst [(D.str "told"), (D.str "a mark")]) else .ok told) fun z_5 => .ok z_5
abbrev L__law_unmarked : List D → FR D := fun xs => match xs with
  | [told] => U__law_unmarked told
  | _ => .bad
def U__law_worst_b (one : D) (two : D) (channel : D) : FR D :=
  un2 (D.tup [(D.int 0), D.non]) fun found phases => (o2f (lenD [one])).bind fun z => (o2f (rg1 [z])).bind fun l => aftU (forU (fun a s => (o2f (lenD [two])).bind fun z_1 => (o2f (rg1 [z_1])).bind fun l_1 => aftU (forU (fun b s_2 => (U__law_time_b one two a b channel).bind fun own_1 => (o2f (isN own_1 D.non)).bind fun z_2 => boolU z_2 fun b_1 => bif b_1 then .ok (.ret (.ret (D.tup [D.non, (D.tup [a, b])]))) else (o2f (gtD own_1 s_2.1)).bind fun z_3 => boolU z_3 fun b_2 => bif b_2 then .ok (.nx (own_1, (D.tup [a, b]))) else .ok (.nx (s_2.1, s_2.2))) l_1 (s.1, s.2)) fun s_3 => .ok (.nx (s_3.1, s_3.2))) l (found, phases)) fun s_1 => .ok (D.tup [s_1.1, s_1.2])
abbrev L__law_worst_b : List D → FR D := fun xs => match xs with
  | [one, two, channel] => U__law_worst_b one two channel
  | _ => .bad
def U_common (one : D) (other : D) : FR D :=
  (o2f (absD [one])).bind fun z => (o2f (absD [other])).bind fun z_1 => aftU (whileU (fun s => (o2f (neD s.2 (D.int 0))).bind fun z_2 => boolU z_2 fun b => bif b then (o2f (modD s.1 s.2)).bind fun z_3 => .ok (.nx (s.2, z_3)) else .ok (.bk (s.1, s.2))) 100000 (z, z_1)) fun s_1 => .ok s_1.1
abbrev L_common : List D → FR D := fun xs => match xs with
  | [one, other] => U_common one other
  | _ => .bad
def U_round_of (rows : D) : FR D :=
  seqU rows fun l => (foldU (fun row s => (o2f (lenD [row])).bind fun z => (U_common s z).bind fun z_1 => (o2f (fdivD s z_1)).bind fun z_2 => (o2f (lenD [row])).bind fun z_3 => (o2f (mulD z_2 z_3)).bind fun found_2 => .ok found_2) l (D.int 1)).bind fun s_1 => (o2f (gtD s_1 (D.int 100000))).bind fun z_4 => boolU z_4 fun b => bif b then .er "TooMany" else .ok s_1
abbrev L_round_of : List D → FR D := fun xs => match xs with
  | [rows] => U_round_of rows
  | _ => .bad
def U_all_time_in (rows : D) (phases : D) (many : D) : FR D :=
  (o2f (rg1 [many])).bind fun l => (findU (fun slot => (o2f (zpU [rows, phases])).bind fun l_1 => (lcU (fun x => un2 x fun row phase => (o2f (addD phase slot)).bind fun z => (o2f (lenD [row])).bind fun z_1 => (o2f (modD z z_1)).bind fun z_2 => (o2f (idxD row z_2)).bind fun z_3 => .ok z_3) l_1).bind fun here_1 => (o2f (minL [(D.lst here_1)])).bind fun z_4 => (o2f (maxL [(D.lst here_1)])).bind fun z_5 => (o2f (eqD z_4 z_5)).bind fun z_6 => boolU z_6 fun b => bif b then (o2f (addD slot (D.int 1))).bind fun z_7 => .ok (some z_7) else .ok none) l).els (.ok D.non)
abbrev L_all_time_in : List D → FR D := fun xs => match xs with
  | [rows, phases, many] => U_all_time_in rows phases many
  | _ => .bad
def W_tupled (F : List D → FR D) (value : D) : FR D :=
  (o2f ((isD2 .list .tuple) value)).bind fun z => boolU z fun b => FR.bind (bif b then seqU value fun l => (lcU (fun own => ((F [own])).bind fun z_2 => .ok z_2) l).bind fun z_1 => (o2f (tupD [(D.lst z_1)])).bind fun z_3 => .ok z_3 else .ok value) fun z_4 => .ok z_4
def UR_tupled : Nat → List D → FR D
  | 0 => fun _ => .bad
  | n + 1 => fun xs => match xs with
    | [value] => W_tupled (UR_tupled n) value
    | _ => .bad
abbrev U_tupled (value : D) : FR D := UR_tupled 10 [value]
abbrev L_tupled : List D → FR D := UR_tupled 10
def U_is_number (thing : D) : FR D :=
  (o2f ((isD1 .int) thing)).bind fun z => boolU z fun b => FR.bind (bif b then (o2f ((isD1 .bool) thing)).bind fun z_1 => (o2f (notD z_1)).bind fun z_2 => .ok z_2 else .ok (D.bl false)) fun z_3 => .ok z_3
abbrev L_is_number : List D → FR D := fun xs => match xs with
  | [thing] => U_is_number thing
  | _ => .bad
def U_is_within (thing : D) (least : D) (most : D) : FR D :=
  (U_is_number thing).bind fun z => boolU z fun b_1 => FR.bind (bif b_1 then (o2f (leD least thing)).bind fun v => boolU v fun b => FR.bind (bif b then o2f (leD thing most) else .ok (D.bl false)) fun z_1 => .ok z_1 else .ok (D.bl false)) fun z_2 => .ok z_2
abbrev L_is_within : List D → FR D := fun xs => match xs with
  | [thing, least, most] => U_is_within thing least most
  | _ => .bad
def U_is_row_in (thing : D) : FR D :=
  (o2f ((isD1 .tuple) thing)).bind fun z => boolU z fun b_1 => FR.bind (bif b_1 then (o2f (neD thing (D.tup []))).bind fun z_1 => boolU z_1 fun b => FR.bind (bif b then seqU thing fun l => (lcU (fun own => (U_is_within own (D.int 0) (D.int 30)).bind fun z_3 => .ok z_3) l).bind fun z_2 => (o2f (allD [(D.lst z_2)])).bind fun z_4 => .ok z_4 else .ok (D.bl false)) fun z_5 => .ok z_5 else .ok (D.bl false)) fun z_6 => .ok z_6
abbrev L_is_row_in : List D → FR D := fun xs => match xs with
  | [thing] => U_is_row_in thing
  | _ => .bad
def U_sure_lot_of_rows (value : D) : FR D :=
  (U_tupled value).bind fun own_1 => (o2f ((isD1 .tuple) own_1)).bind fun z => boolU z fun b => FR.bind (bif (!b) then .ok true else (o2f (lenD [own_1])).bind fun z_1 => (o2f (leD (D.int 2) z_1)).bind fun v => boolU v fun b_1 => FR.bind (bif b_1 then o2f (leD z_1 (D.int 5)) else .ok (D.bl false)) fun z_2 => boolU z_2 fun b_2 => .ok (!b_2)) fun b_3 => bif b_3 then .er "Unfit" else seqU own_1 fun l => (lcU (fun row => (U_is_row_in row).bind fun z_4 => boolU z_4 fun b_4 => FR.bind (bif b_4 then (o2f (lenD [row])).bind fun z_5 => (o2f (leD z_5 (D.int 400))).bind fun z_6 => .ok z_6 else .ok (D.bl false)) fun z_7 => .ok z_7) l).bind fun z_3 => (o2f (allD [(D.lst z_3)])).bind fun z_8 => boolU z_8 fun b_5 => bif (!b_5) then .er "Unfit" else .ok own_1
abbrev L_sure_lot_of_rows : List D → FR D := fun xs => match xs with
  | [value] => U_sure_lot_of_rows value
  | _ => .bad
def U_channels_in (row : D) : FR D :=
  (o2f (ssO row)).bind fun z => (o2f (tupD [(D.lst z)])).bind fun z_1 => .ok z_1
abbrev L_channels_in : List D → FR D := fun xs => match xs with
  | [row] => U_channels_in row
  | _ => .bad
def U_all_channels (rows : D) : FR D :=
  (U_sure_lot_of_rows rows).bind fun own_1 => (o2f (idxD own_1 (D.int 0))).bind fun z => (U_channels_in z).bind fun z_1 => seqU z_1 fun l => (lcF (fun channel => seqU own_1 fun l_1 => (lcU (fun row => (o2f (inD channel row)).bind fun z_4 => .ok z_4) l_1).bind fun z_3 => (o2f (allD [(D.lst z_3)])).bind fun z_5 => boolU z_5 fun b => bif b then .ok (some channel) else .ok none) l).bind fun z_2 => (o2f (tupD [(D.lst z_2)])).bind fun z_6 => .ok z_6
abbrev L_all_channels : List D → FR D := fun xs => match xs with
  | [rows] => U_all_channels rows
  | _ => .bad
def U_sure_places (rows : D) (value : D) : FR D :=
  (U_tupled value).bind fun own_1 => (o2f ((isD1 .tuple) own_1)).bind fun z => boolU z fun b => FR.bind (bif (!b) then .ok true else (o2f (lenD [own_1])).bind fun z_1 => (o2f (lenD [rows])).bind fun z_2 => (o2f (neD z_1 z_2)).bind fun z_3 => boolU z_3 fun b_1 => .ok b_1) fun b_2 => bif b_2 then .er "Unfit" else (o2f (zpU [own_1, rows])).bind fun l => (lcU (fun x => un2 x fun place row => (o2f (lenD [row])).bind fun z_5 => (o2f (subD z_5 (D.int 1))).bind fun z_6 => (U_is_within place (D.int 0) z_6).bind fun z_7 => .ok z_7) l).bind fun z_4 => (o2f (allD [(D.lst z_4)])).bind fun z_8 => boolU z_8 fun b_3 => bif (!b_3) then .er "Unfit" else .ok own_1
abbrev L_sure_places : List D → FR D := fun xs => match xs with
  | [rows, value] => U_sure_places rows value
  | _ => .bad
def U_all_first (rows : D) (phases : D) : FR D :=
  (U_sure_lot_of_rows rows).bind fun own_1 => (U_sure_places own_1 phases).bind fun places_1 => (U_round_of own_1).bind fun z => (U_all_time_in own_1 places_1 z).bind fun z_1 => .ok z_1
abbrev L_all_first : List D → FR D := fun xs => match xs with
  | [rows, phases] => U_all_first rows phases
  | _ => .bad
def U_sure_hops (value : D) : FR D :=
  (U_tupled value).bind fun own_1 => (U_is_row_in own_1).bind fun z => boolU z fun b => FR.bind (bif (!b) then .ok true else (o2f (lenD [own_1])).bind fun z_1 => (o2f (gtD z_1 (D.int 400))).bind fun z_2 => boolU z_2 fun b_1 => .ok b_1) fun b_2 => bif b_2 then .er "Unfit" else .ok own_1
abbrev L_sure_hops : List D → FR D := fun xs => match xs with
  | [value] => U_sure_hops value
  | _ => .bad
def U_sure_two (one : D) (other : D) : FR D :=
  (U_sure_hops one).bind fun near_1 => (U_sure_hops other).bind fun z => .ok (D.tup [near_1, z])
abbrev L_sure_two : List D → FR D := fun xs => match xs with
  | [one, other] => U_sure_two one other
  | _ => .bad
def U_slots_in (row : D) (channel : D) : FR D :=
  (o2f (enU [row])).bind fun l => (lcF (fun x => un2 x fun place own => (o2f (eqD own channel)).bind fun z_1 => boolU z_1 fun b => bif b then .ok (some place) else .ok none) l).bind fun z => (o2f (tupD [(D.lst z)])).bind fun z_2 => .ok z_2
abbrev L_slots_in : List D → FR D := fun xs => match xs with
  | [row, channel] => U_slots_in row channel
  | _ => .bad
def U_together_in (one : D) (other : D) : FR D :=
  (o2f (lenD [one])).bind fun z => (o2f (lenD [one])).bind fun z_1 => (o2f (lenD [other])).bind fun z_2 => (U_common z_1 z_2).bind fun z_3 => (o2f (fdivD z z_3)).bind fun z_4 => (o2f (lenD [other])).bind fun z_5 => (o2f (mulD z_4 z_5)).bind fun z_6 => .ok z_6
abbrev L_together_in : List D → FR D := fun xs => match xs with
  | [one, other] => U_together_in one other
  | _ => .bad
def U_sure_within (thing : D) (least : D) (most : D) : FR D :=
  (U_is_within thing least most).bind fun z => boolU z fun b => bif (!b) then .er "Unfit" else .ok thing
abbrev L_sure_within : List D → FR D := fun xs => match xs with
  | [thing, least, most] => U_sure_within thing least most
  | _ => .bad
def U_sure_channel (value : D) : FR D :=
  (U_sure_within value (D.int 0) (D.int 30)).bind fun z => .ok z
abbrev L_sure_channel : List D → FR D := fun xs => match xs with
  | [value] => U_sure_channel value
  | _ => .bad
def U_shared_in (one : D) (other : D) : FR D :=
  (U_channels_in one).bind fun z => seqU z fun l => (lcF (fun own => (U_channels_in other).bind fun z_2 => (o2f (inD own z_2)).bind fun z_3 => boolU z_3 fun b => bif b then .ok (some own) else .ok none) l).bind fun z_1 => (o2f (tupD [(D.lst z_1)])).bind fun z_4 => .ok z_4
abbrev L_shared_in : List D → FR D := fun xs => match xs with
  | [one, other] => U_shared_in one other
  | _ => .bad
def U_lots_of (channels : D) (many : D) : FR (List D) :=
  seqU channels fun l => (foldU (fun own s => seqU s fun l_1 => (lcF (fun lot => (o2f (lenD [lot])).bind fun z_1 => (o2f (ltD z_1 many)).bind fun z_2 => boolU z_2 fun b => bif b then (o2f (addD lot (D.tup [own]))).bind fun z_3 => .ok (some z_3) else .ok none) l_1).bind fun z => (o2f (addD s (D.lst z))).bind fun found_2 => (o2f (lenD [found_2])).bind fun z_4 => (o2f (gtD z_4 (D.int 2000))).bind fun z_5 => boolU z_5 fun b_1 => bif b_1 then .er "TooMany" else .ok found_2) l (D.lst [(D.tup [])])).bind fun s_1 => seqU s_1 fun l_2 => (lcF (fun lot_1 => (o2f (lenD [lot_1])).bind fun z_7 => (o2f (eqD z_7 many)).bind fun z_8 => boolU z_8 fun b_2 => bif b_2 then .ok (some lot_1) else .ok none) l_2).bind fun z_6 => (o2f (sortO [(D.lst z_6)])).bind fun z_9 => .ok z_9
abbrev L_lots_of : List D → FR (List D) := fun xs => match xs with
  | [channels, many] => U_lots_of channels many
  | _ => .bad
def U_hushed (row : D) (silent : D) (mark : D) : FR D :=
  seqU row fun l => (lcU (fun own => (o2f (inD own silent)).bind fun z_1 => boolU z_1 fun b => FR.bind (bif b then .ok mark else .ok own) fun z_2 => .ok z_2) l).bind fun z => (o2f (tupD [(D.lst z)])).bind fun z_3 => .ok z_3
abbrev L_hushed : List D → FR D := fun xs => match xs with
  | [row, silent, mark] => U_hushed row silent mark
  | _ => .bad
def U_is_code_in (thing : D) : FR D :=
  (o2f ((isD1 .tuple) thing)).bind fun z => boolU z fun b_1 => FR.bind (bif b_1 then (o2f (neD thing (D.tup []))).bind fun z_1 => boolU z_1 fun b => FR.bind (bif b then seqU thing fun l => (lcU (fun own => (U_is_within own (D.int 0) (D.int 1)).bind fun z_3 => .ok z_3) l).bind fun z_2 => (o2f (allD [(D.lst z_2)])).bind fun z_4 => .ok z_4 else .ok (D.bl false)) fun z_5 => .ok z_5 else .ok (D.bl false)) fun z_6 => .ok z_6
abbrev L_is_code_in : List D → FR D := fun xs => match xs with
  | [thing] => U_is_code_in thing
  | _ => .bad
def U_sure_code (value : D) : FR D :=
  (U_tupled value).bind fun own_1 => (U_is_code_in own_1).bind fun z => boolU z fun b => FR.bind (bif (!b) then .ok true else (o2f (lenD [own_1])).bind fun z_1 => (o2f (gtD z_1 (D.int 40))).bind fun z_2 => boolU z_2 fun b_1 => .ok b_1) fun b_2 => bif b_2 then .er "Unfit" else .ok own_1
abbrev L_sure_code : List D → FR D := fun xs => match xs with
  | [value] => U_sure_code value
  | _ => .bad
def U_sure_codes (one : D) (other : D) : FR D :=
  (U_sure_code one).bind fun near_1 => (U_sure_code other).bind fun far_1 => (o2f (lenD [near_1])).bind fun z => (o2f (lenD [far_1])).bind fun z_1 => (o2f (neD z z_1)).bind fun z_2 => boolU z_2 fun b => bif b then .er "Unfit" else .ok (D.tup [near_1, far_1])
abbrev L_sure_codes : List D → FR D := fun xs => match xs with
  | [one, other] => U_sure_codes one other
  | _ => .bad
def U_turned_code (code : D) (shift : D) : FR D :=
  intU shift fun n => (o2f (slD (some n) none code)).bind fun z => intU shift fun n_1 => (o2f (slD none (some n_1) code)).bind fun z_1 => (o2f (addD z z_1)).bind fun z_2 => .ok z_2
abbrev L_turned_code : List D → FR D := fun xs => match xs with
  | [code, shift] => U_turned_code code shift
  | _ => .bad
def U_time_in (one : D) (other : D) (phases : D) (channel : D) : FR D :=
  (U_together_in one other).bind fun z => (o2f (rg1 [z])).bind fun l => (findU (fun slot => (o2f (idxD phases (D.int 0))).bind fun z_1 => (o2f (addD z_1 slot)).bind fun z_2 => (o2f (lenD [one])).bind fun z_3 => (o2f (modD z_2 z_3)).bind fun z_4 => (o2f (idxD one z_4)).bind fun own_1 => (o2f (idxD phases (D.int 1))).bind fun z_5 => (o2f (addD z_5 slot)).bind fun z_6 => (o2f (lenD [other])).bind fun z_7 => (o2f (modD z_6 z_7)).bind fun z_8 => (o2f (idxD other z_8)).bind fun z_9 => (o2f (eqD own_1 z_9)).bind fun z_10 => boolU z_10 fun b => FR.bind (bif b then (o2f (inD channel (D.tup [D.non, own_1]))).bind fun z_11 => boolU z_11 fun b_1 => .ok b_1 else .ok false) fun b_2 => bif b_2 then (o2f (addD slot (D.int 1))).bind fun z_12 => .ok (some z_12) else .ok none) l).els (.ok D.non)
abbrev L_time_in : List D → FR D := fun xs => match xs with
  | [one, other, phases, channel] => U_time_in one other phases channel
  | _ => .bad
def U_is_long (thing : D) (length : D) : FR D :=
  (o2f ((isD1 .tuple) thing)).bind fun z => boolU z fun b => FR.bind (bif b then (o2f (lenD [thing])).bind fun z_1 => (o2f (eqD z_1 length)).bind fun z_2 => .ok z_2 else .ok (D.bl false)) fun z_3 => .ok z_3
abbrev L_is_long : List D → FR D := fun xs => match xs with
  | [thing, length] => U_is_long thing length
  | _ => .bad
def U_are_barring (one : D) (other : D) (thing : D) : FR D :=
  (U_sure_two one other).bind fun z => un2 z fun near far => (U_is_long thing (D.int 2)).bind fun z_1 => boolU z_1 fun b => FR.bind (bif (!b) then .ok true else (o2f (idxD thing (D.int 0))).bind fun z_2 => (o2f (lenD [near])).bind fun z_3 => (o2f (subD z_3 (D.int 1))).bind fun z_4 => (U_is_within z_2 (D.int 0) z_4).bind fun z_5 => boolU z_5 fun b_1 => FR.bind (bif (!b_1) then .ok true else (o2f (idxD thing (D.int 1))).bind fun z_6 => (o2f (lenD [far])).bind fun z_7 => (o2f (subD z_7 (D.int 1))).bind fun z_8 => (U_is_within z_6 (D.int 0) z_8).bind fun z_9 => boolU z_9 fun b_2 => .ok (!b_2)) fun b_3 => .ok b_3) fun b_4 => bif b_4 then .ok (D.bl false) else (U_time_in near far thing D.non).bind fun z_10 => (o2f (isN z_10 D.non)).bind fun z_11 => .ok z_11
abbrev L_are_barring : List D → FR D := fun xs => match xs with
  | [one, other, thing] => U_are_barring one other thing
  | _ => .bad
def U_pairs_in (one : D) (other : D) (phases : D) : FR D :=
  (U_together_in one other).bind fun z => (o2f (rg1 [z])).bind fun l => (foldU (fun slot s => (o2f (idxD phases (D.int 0))).bind fun z_1 => (o2f (addD z_1 slot)).bind fun z_2 => (o2f (lenD [one])).bind fun z_3 => (o2f (modD z_2 z_3)).bind fun z_4 => (o2f (idxD one z_4)).bind fun z_5 => (o2f (idxD phases (D.int 1))).bind fun z_6 => (o2f (addD z_6 slot)).bind fun z_7 => (o2f (lenD [other])).bind fun z_8 => (o2f (modD z_7 z_8)).bind fun z_9 => (o2f (idxD other z_9)).bind fun z_10 => getU s (D.tup [z_5, z_10]) (D.int 0) fun z_11 => (o2f (addD z_11 (D.int 1))).bind fun z_12 => (putDU s (D.tup [z_5, z_10]) z_12).bind fun found => .ok found) l []).bind fun s_1 => .ok (D.dic s_1)
abbrev L_pairs_in : List D → FR D := fun xs => match xs with
  | [one, other, phases] => U_pairs_in one other phases
  | _ => .bad
def U_least_in (row : D) : FR D :=
  (o2f (lenD [row])).bind fun z => (o2f (rg2 [(D.int 1), z])).bind fun l => (findU (fun length => (o2f (lenD [row])).bind fun z_1 => (o2f (modD z_1 length)).bind fun z_2 => (o2f (eqD z_2 (D.int 0))).bind fun z_3 => boolU z_3 fun b => FR.bind (bif b then intU length fun n => (o2f (slD none (some n) row)).bind fun z_4 => (o2f (lenD [row])).bind fun z_5 => (o2f (fdivD z_5 length)).bind fun z_6 => (o2f (mulD z_4 z_6)).bind fun z_7 => (o2f (eqD row z_7)).bind fun z_8 => boolU z_8 fun b_1 => .ok b_1 else .ok false) fun b_2 => bif b_2 then intU length fun n_1 => (o2f (slD none (some n_1) row)).bind fun z_9 => .ok (some z_9) else .ok none) l).els (.ok row)
abbrev L_least_in : List D → FR D := fun xs => match xs with
  | [row] => U_least_in row
  | _ => .bad
def U_are_one (one : D) (other : D) : FR D :=
  (U_sure_hops one).bind fun own_1 => (U_least_in own_1).bind fun z => (U_sure_hops other).bind fun z_1 => (U_least_in z_1).bind fun z_2 => (o2f (eqD z z_2)).bind fun z_3 => .ok z_3
abbrev L_are_one : List D → FR D := fun xs => match xs with
  | [one, other] => U_are_one one other
  | _ => .bad
def U_are_phases (one : D) (other : D) (thing : D) : FR D :=
  (U_is_long thing (D.int 2)).bind fun z => boolU z fun b_1 => FR.bind (bif b_1 then (o2f (idxD thing (D.int 0))).bind fun z_1 => (o2f (lenD [one])).bind fun z_2 => (o2f (subD z_2 (D.int 1))).bind fun z_3 => (U_is_within z_1 (D.int 0) z_3).bind fun z_4 => boolU z_4 fun b => FR.bind (bif b then (o2f (idxD thing (D.int 1))).bind fun z_5 => (o2f (lenD [other])).bind fun z_6 => (o2f (subD z_6 (D.int 1))).bind fun z_7 => (U_is_within z_5 (D.int 0) z_7).bind fun z_8 => .ok z_8 else .ok (D.bl false)) fun z_9 => .ok z_9 else .ok (D.bl false)) fun z_10 => .ok z_10
abbrev L_are_phases : List D → FR D := fun xs => match xs with
  | [one, other, thing] => U_are_phases one other thing
  | _ => .bad
def U_moved_in (row : D) (slots : D) : FR D :=
  (o2f (lenD [row])).bind fun z => (o2f (modD slots z)).bind fun start__1 => intU start__1 fun n => (o2f (slD (some n) none row)).bind fun z_1 => intU start__1 fun n_1 => (o2f (slD none (some n_1) row)).bind fun z_2 => (o2f (addD z_1 z_2)).bind fun z_3 => .ok z_3
abbrev L_moved_in : List D → FR D := fun xs => match xs with
  | [row, slots] => U_moved_in row slots
  | _ => .bad
def U_are_turned (one : D) (other : D) : FR D :=
  (U_sure_hops one).bind fun z => (U_least_in z).bind fun near_1 => (U_sure_hops other).bind fun z_1 => (U_least_in z_1).bind fun far_1 => (o2f (lenD [near_1])).bind fun z_2 => (o2f (lenD [far_1])).bind fun z_3 => (o2f (eqD z_2 z_3)).bind fun z_4 => boolU z_4 fun b => FR.bind (bif b then (o2f (lenD [near_1])).bind fun z_5 => (o2f (rg1 [z_5])).bind fun l => (lcU (fun slots => (U_moved_in near_1 slots).bind fun z_7 => (o2f (eqD z_7 far_1)).bind fun z_8 => .ok z_8) l).bind fun z_6 => (o2f (anyD [(D.lst z_6)])).bind fun z_9 => .ok z_9 else .ok (D.bl false)) fun z_10 => .ok z_10
abbrev L_are_turned : List D → FR D := fun xs => match xs with
  | [one, other] => U_are_turned one other
  | _ => .bad
def U_are_turnings (one : D) (other : D) : FR D :=
  (U_sure_codes one other).bind fun z => un2 z fun near far => (o2f (lenD [near])).bind fun z_1 => (o2f (rg1 [z_1])).bind fun l => (lcU (fun shift => (U_turned_code near shift).bind fun z_3 => (o2f (eqD z_3 far)).bind fun z_4 => .ok z_4) l).bind fun z_2 => (o2f (anyD [(D.lst z_2)])).bind fun z_5 => .ok z_5
abbrev L_are_turnings : List D → FR D := fun xs => match xs with
  | [one, other] => U_are_turnings one other
  | _ => .bad
def U_counts_in (one : D) (other : D) (channel : D) : FR D :=
  (U_slots_in one channel).bind fun z => (o2f (lenD [z])).bind fun z_1 => (U_slots_in other channel).bind fun z_2 => (o2f (lenD [z_2])).bind fun z_3 => (o2f (mulD z_1 z_3)).bind fun z_4 => .ok z_4
abbrev L_counts_in : List D → FR D := fun xs => match xs with
  | [one, other, channel] => U_counts_in one other channel
  | _ => .bad
def U_bars_in (one : D) (other : D) : FR (List D) :=
  (o2f (lenD [one])).bind fun z => (o2f (lenD [other])).bind fun z_1 => (U_common z z_1).bind fun need_1 => (U_shared_in one other).bind fun z_2 => seqU z_2 fun l => (lcF (fun own => (U_counts_in one other own).bind fun z_4 => (o2f (ltD z_4 need_1)).bind fun z_5 => boolU z_5 fun b => bif b then .ok (some own) else .ok none) l).bind fun z_3 => .ok z_3
abbrev L_bars_in : List D → FR (List D) := fun xs => match xs with
  | [one, other] => U_bars_in one other
  | _ => .bad
def U_channel_at (row : D) (slot : D) : FR D :=
  (U_sure_hops row).bind fun own_1 => (U_sure_within slot (D.int 0) (D.int 1000000000)).bind fun z => (o2f (lenD [own_1])).bind fun z_1 => (o2f (modD z z_1)).bind fun z_2 => (o2f (idxD own_1 z_2)).bind fun z_3 => .ok z_3
abbrev L_channel_at : List D → FR D := fun xs => match xs with
  | [row, slot] => U_channel_at row slot
  | _ => .bad
def U_channels_of (row : D) : FR D :=
  (U_sure_hops row).bind fun z => (U_channels_in z).bind fun z_1 => .ok z_1
abbrev L_channels_of : List D → FR D := fun xs => match xs with
  | [row] => U_channels_of row
  | _ => .bad
def U_chosen_of (goods : D) (many : D) : FR (List D) :=
  seqU goods fun l => (foldU (fun own s => seqU s fun l_1 => (lcF (fun lot => (o2f (lenD [lot])).bind fun z_1 => (o2f (ltD z_1 many)).bind fun z_2 => boolU z_2 fun b => bif b then (o2f (addD lot (D.tup [own]))).bind fun z_3 => .ok (some z_3) else .ok none) l_1).bind fun z => (o2f (addD s (D.lst z))).bind fun found_2 => .ok found_2) l (D.lst [(D.tup [])])).bind fun s_1 => seqU s_1 fun l_2 => (lcF (fun lot_1 => (o2f (lenD [lot_1])).bind fun z_5 => (o2f (eqD z_5 many)).bind fun z_6 => boolU z_6 fun b_1 => bif b_1 then .ok (some lot_1) else .ok none) l_2).bind fun z_4 => .ok z_4
abbrev L_chosen_of : List D → FR (List D) := fun xs => match xs with
  | [goods, many] => U_chosen_of goods many
  | _ => .bad
def U_turnings_of (one : D) (other : D) : FR (List D) :=
  (o2f (lenD [one])).bind fun z => (o2f (rg1 [z])).bind fun l => (lcF (fun shift => (U_turned_code one shift).bind fun z_2 => (o2f (eqD z_2 other)).bind fun z_3 => boolU z_3 fun b => bif b then .ok (some shift) else .ok none) l).bind fun z_1 => .ok z_1
abbrev L_turnings_of : List D → FR (List D) := fun xs => match xs with
  | [one, other] => U_turnings_of one other
  | _ => .bad
def U_slots_met (one : D) (other : D) (gap : D) (channel : D) : FR D :=
  (U_together_in one other).bind fun z => (o2f (rg1 [z])).bind fun l => (foldU (fun slot s => (o2f (addD gap slot)).bind fun z_1 => (o2f (lenD [one])).bind fun z_2 => (o2f (modD z_1 z_2)).bind fun z_3 => (o2f (idxD one z_3)).bind fun own_1 => (o2f (lenD [other])).bind fun z_4 => (o2f (modD slot z_4)).bind fun z_5 => (o2f (idxD other z_5)).bind fun z_6 => (o2f (eqD own_1 z_6)).bind fun z_7 => boolU z_7 fun b => FR.bind (bif b then (o2f (inD channel (D.tup [D.non, own_1]))).bind fun z_8 => boolU z_8 fun b_1 => .ok b_1 else .ok false) fun b_2 => bif b_2 then (appU s slot).bind fun found_1 => .ok found_1 else .ok s) l []).bind fun s_1 => (o2f (tupD [(D.lst s_1)])).bind fun z_9 => .ok z_9
abbrev L_slots_met : List D → FR D := fun xs => match xs with
  | [one, other, gap, channel] => U_slots_met one other gap channel
  | _ => .bad
def U_gaps_in (one : D) (other : D) : FR D :=
  (o2f (lenD [one])).bind fun z => (o2f (lenD [other])).bind fun z_1 => (U_common z z_1).bind fun z_2 => .ok z_2
abbrev L_gaps_in : List D → FR D := fun xs => match xs with
  | [one, other] => U_gaps_in one other
  | _ => .bad
def U_clock_in (prime : D) (rate : D) (start_ : D) : FR D :=
  (o2f (rg1 [prime])).bind fun l => (lcU (fun slot => (o2f (mulD rate slot)).bind fun z_1 => (o2f (addD start_ z_1)).bind fun z_2 => (o2f (modD z_2 prime)).bind fun z_3 => .ok z_3) l).bind fun z => (o2f (tupD [(D.lst z)])).bind fun z_4 => .ok z_4
abbrev L_clock_in : List D → FR D := fun xs => match xs with
  | [prime, rate, start_] => U_clock_in prime rate start_
  | _ => .bad
def U_is_prime_in (number : D) : FR D :=
  (o2f (gtD number (D.int 1))).bind fun z => boolU z fun b_1 => FR.bind (bif b_1 then (o2f (rg2 [(D.int 2), number])).bind fun l => (lcF (fun own => (o2f (mulD own own)).bind fun z_2 => (o2f (leD z_2 number)).bind fun z_3 => boolU z_3 fun b => bif b then (o2f (modD number own)).bind fun z_4 => (o2f (neD z_4 (D.int 0))).bind fun z_5 => .ok (some z_5) else .ok none) l).bind fun z_1 => (o2f (allD [(D.lst z_1)])).bind fun z_6 => .ok z_6 else .ok (D.bl false)) fun z_7 => .ok z_7
abbrev L_is_prime_in : List D → FR D := fun xs => match xs with
  | [number] => U_is_prime_in number
  | _ => .bad
def U_sure_prime (value : D) : FR D :=
  (U_is_within value (D.int 2) (D.int 31)).bind fun z => boolU z fun b => FR.bind (bif (!b) then .ok true else (U_is_prime_in value).bind fun z_1 => boolU z_1 fun b_1 => .ok (!b_1)) fun b_2 => bif b_2 then .er "Unfit" else .ok value
abbrev L_sure_prime : List D → FR D := fun xs => match xs with
  | [value] => U_sure_prime value
  | _ => .bad
def U_sure_clock (prime : D) (value : D) : FR D :=
  (U_tupled value).bind fun own_1 => (U_is_long own_1 (D.int 2)).bind fun z => boolU z fun b => FR.bind (bif (!b) then .ok true else seqU own_1 fun l => (lcU (fun its => (o2f (subD prime (D.int 1))).bind fun z_2 => (U_is_within its (D.int 0) z_2).bind fun z_3 => .ok z_3) l).bind fun z_1 => (o2f (allD [(D.lst z_1)])).bind fun z_4 => boolU z_4 fun b_1 => .ok (!b_1)) fun b_2 => bif b_2 then .er "Unfit" else .ok own_1
abbrev L_sure_clock : List D → FR D := fun xs => match xs with
  | [prime, value] => U_sure_clock prime value
  | _ => .bad
def U_contrary_by (number : D) (length : D) : FR D :=
  (o2f (rg1 [length])).bind fun l => (lcF (fun own => (o2f (mulD own number)).bind fun z_1 => (o2f (modD z_1 length)).bind fun z_2 => (o2f (modD (D.int 1) length)).bind fun z_3 => (o2f (eqD z_2 z_3)).bind fun z_4 => boolU z_4 fun b => bif b then .ok (some own) else .ok none) l).bind fun z => (o2f (idxD (D.lst z) (D.int 0))).bind fun z_5 => .ok z_5
abbrev L_contrary_by : List D → FR D := fun xs => match xs with
  | [number, length] => U_contrary_by number length
  | _ => .bad
def U_clock_meet (prime : D) (one : D) (other : D) : FR D :=
  (U_sure_prime prime).bind fun many_1 => (U_sure_clock many_1 one).bind fun near_1 => (U_sure_clock many_1 other).bind fun far_1 => (o2f (idxD near_1 (D.int 0))).bind fun z => (o2f (idxD far_1 (D.int 0))).bind fun z_1 => (o2f (subD z z_1)).bind fun z_2 => (o2f (modD z_2 many_1)).bind fun z_3 => (o2f (idxD far_1 (D.int 1))).bind fun z_4 => (o2f (idxD near_1 (D.int 1))).bind fun z_5 => (o2f (subD z_4 z_5)).bind fun z_6 => (o2f (modD z_6 many_1)).bind fun z_7 => (o2f (eqD z_3 (D.int 0))).bind fun z_8 => boolU z_8 fun b => FR.bind (bif b then (o2f (neD z_7 (D.int 0))).bind fun z_9 => boolU z_9 fun b_1 => .ok b_1 else .ok false) fun b_2 => bif b_2 then .er "CanNot" else (o2f (eqD z_3 (D.int 0))).bind fun z_10 => boolU z_10 fun b_3 => FR.bind (bif b_3 then .ok (D.int 0) else (U_contrary_by z_3 many_1).bind fun z_11 => (o2f (mulD z_7 z_11)).bind fun z_12 => (o2f (modD z_12 many_1)).bind fun z_13 => .ok z_13) fun z_14 => .ok z_14
abbrev L_clock_meet : List D → FR D := fun xs => match xs with
  | [prime, one, other] => U_clock_meet prime one other
  | _ => .bad
def U_clock_row (prime : D) (clock : D) : FR D :=
  (U_sure_prime prime).bind fun many_1 => (U_sure_clock many_1 clock).bind fun own_1 => (o2f (idxD own_1 (D.int 0))).bind fun z => (o2f (idxD own_1 (D.int 1))).bind fun z_1 => (U_clock_in many_1 z z_1).bind fun z_2 => .ok z_2
abbrev L_clock_row : List D → FR D := fun xs => match xs with
  | [prime, clock] => U_clock_row prime clock
  | _ => .bad
def U_sure_block (code : D) (many : D) : FR D :=
  (o2f (mulD (D.int 2) many)).bind fun z => (o2f (mulD z many)).bind fun block_1 => (o2f (lenD [code])).bind fun z_1 => (o2f (mulD block_1 z_1)).bind fun z_2 => (o2f (gtD z_2 (D.int 400))).bind fun z_3 => boolU z_3 fun b => bif b then .er "CanNot" else .ok block_1
abbrev L_sure_block : List D → FR D := fun xs => match xs with
  | [code, many] => U_sure_block code many
  | _ => .bad
def U_code_bound (code : D) (many : D) : FR D :=
  (U_sure_code code).bind fun own_1 => (U_sure_within many (D.int 1) (D.int 6)).bind fun often_1 => (U_sure_block own_1 often_1).bind fun z => (o2f (lenD [own_1])).bind fun z_1 => (o2f (mulD z z_1)).bind fun z_2 => .ok z_2
abbrev L_code_bound : List D → FR D := fun xs => match xs with
  | [code, many] => U_code_bound code many
  | _ => .bad
def U_code_row (code : D) (many : D) : FR D :=
  (U_sure_code code).bind fun own_1 => (U_sure_within many (D.int 1) (D.int 6)).bind fun often_1 => (U_sure_block own_1 often_1).bind fun z => seqU own_1 fun l => (foldU (fun bit s => (o2f (rg1 [z])).bind fun l_1 => (lcU (fun slot => (o2f (eqD bit (D.int 1))).bind fun z_2 => boolU z_2 fun b => FR.bind (bif b then (o2f (modD slot often_1)).bind fun z_3 => .ok z_3 else (o2f (fdivD slot often_1)).bind fun z_4 => (o2f (modD z_4 often_1)).bind fun z_5 => .ok z_5) fun z_6 => .ok z_6) l_1).bind fun z_1 => (o2f (tupD [(D.lst z_1)])).bind fun z_7 => (o2f (addD s z_7)).bind fun found_2 => .ok found_2) l (D.tup [])).bind fun s_1 => .ok s_1
abbrev L_code_row : List D → FR D := fun xs => match xs with
  | [code, many] => U_code_row code many
  | _ => .bad
def U_counted_all (one : D) (other : D) : FR D :=
  (U_sure_two one other).bind fun z => un2 z fun near far => (U_shared_in near far).bind fun z_1 => seqU z_1 fun l => (lcU (fun own => (U_counts_in near far own).bind fun z_3 => .ok z_3) l).bind fun z_2 => (o2f (sumD [(D.lst z_2)])).bind fun z_4 => .ok z_4
abbrev L_counted_all : List D → FR D := fun xs => match xs with
  | [one, other] => U_counted_all one other
  | _ => .bad
def U_counting_bar (one : D) (other : D) : FR D :=
  (U_sure_two one other).bind fun z => un2 z fun near far => (U_bars_in near far).bind fun found_1 => (o2f (eqD (D.lst found_1) (D.lst []))).bind fun z_1 => boolU z_1 fun b => bif b then .er "CanNot" else (o2f (idxD (D.lst found_1) (D.int 0))).bind fun z_2 => .ok z_2
abbrev L_counting_bar : List D → FR D := fun xs => match xs with
  | [one, other] => U_counting_bar one other
  | _ => .bad
def U_sure_round (value : D) : FR D :=
  (U_sure_within value (D.int 1) (D.int 400)).bind fun z => .ok z
abbrev L_sure_round : List D → FR D := fun xs => match xs with
  | [value] => U_sure_round value
  | _ => .bad
def U_is_slots_in (length : D) (thing : D) : FR D :=
  (o2f ((isD1 .tuple) thing)).bind fun z => boolU z fun b => FR.bind (bif (!b) then .ok true else seqU thing fun l => (lcU (fun own => (o2f (subD length (D.int 1))).bind fun z_2 => (U_is_within own (D.int 0) z_2).bind fun z_3 => .ok z_3) l).bind fun z_1 => (o2f (allD [(D.lst z_1)])).bind fun z_4 => boolU z_4 fun b_1 => .ok (!b_1)) fun b_2 => bif b_2 then .ok (D.bl false) else intU (D.int 1) fun n => (o2f (slD (some n) none thing)).bind fun z_5 => (o2f (zpU [thing, z_5])).bind fun l_1 => (lcU (fun x => un2 x fun one other => (o2f (ltD one other)).bind fun z_7 => .ok z_7) l_1).bind fun z_6 => (o2f (allD [(D.lst z_6)])).bind fun z_8 => .ok z_8
abbrev L_is_slots_in : List D → FR D := fun xs => match xs with
  | [length, thing] => U_is_slots_in length thing
  | _ => .bad
def U_sure_slots (length : D) (value : D) : FR D :=
  (U_tupled value).bind fun own_1 => (U_is_slots_in length own_1).bind fun z => boolU z fun b => bif (!b) then .er "Unfit" else .ok own_1
abbrev L_sure_slots : List D → FR D := fun xs => match xs with
  | [length, value] => U_sure_slots length value
  | _ => .bad
def U_every (row : D) (step : D) : FR D :=
  (U_sure_hops row).bind fun own_1 => (U_sure_within step (D.int 1) (D.int 1000000000)).bind fun many_1 => (o2f (lenD [own_1])).bind fun z => (o2f (lenD [own_1])).bind fun z_1 => (U_common z_1 many_1).bind fun z_2 => (o2f (fdivD z z_2)).bind fun z_3 => (o2f (rg1 [z_3])).bind fun l => (lcU (fun slot => (o2f (mulD slot many_1)).bind fun z_5 => (o2f (lenD [own_1])).bind fun z_6 => (o2f (modD z_5 z_6)).bind fun z_7 => (o2f (idxD own_1 z_7)).bind fun z_8 => .ok z_8) l).bind fun z_4 => (o2f (tupD [(D.lst z_4)])).bind fun z_9 => .ok z_9
abbrev L_every : List D → FR D := fun xs => match xs with
  | [row, step] => U_every row step
  | _ => .bad
def U_sure_phases (one : D) (other : D) (value : D) : FR D :=
  (U_tupled value).bind fun own_1 => (U_is_long own_1 (D.int 2)).bind fun z => boolU z fun b => FR.bind (bif (!b) then .ok true else (o2f (idxD own_1 (D.int 0))).bind fun z_1 => (o2f (lenD [one])).bind fun z_2 => (o2f (subD z_2 (D.int 1))).bind fun z_3 => (U_is_within z_1 (D.int 0) z_3).bind fun z_4 => boolU z_4 fun b_1 => FR.bind (bif (!b_1) then .ok true else (o2f (idxD own_1 (D.int 1))).bind fun z_5 => (o2f (lenD [other])).bind fun z_6 => (o2f (subD z_6 (D.int 1))).bind fun z_7 => (U_is_within z_5 (D.int 0) z_7).bind fun z_8 => boolU z_8 fun b_2 => .ok (!b_2)) fun b_3 => .ok b_3) fun b_4 => bif b_4 then .er "Unfit" else .ok own_1
abbrev L_sure_phases : List D → FR D := fun xs => match xs with
  | [one, other, value] => U_sure_phases one other value
  | _ => .bad
def U_first_meet (one : D) (other : D) (phases : D) : FR D :=
  (U_sure_two one other).bind fun z => un2 z fun near far => (U_sure_phases near far phases).bind fun z_1 => (U_time_in near far z_1 D.non).bind fun z_2 => .ok z_2
abbrev L_first_meet : List D → FR D := fun xs => match xs with
  | [one, other, phases] => U_first_meet one other phases
  | _ => .bad
def U_first_meet_on (one : D) (other : D) (phases : D) (channel : D) : FR D :=
  (U_sure_two one other).bind fun z => un2 z fun near far => (U_sure_phases near far phases).bind fun own_1 => (U_sure_channel channel).bind fun z_1 => (U_time_in near far own_1 z_1).bind fun z_2 => .ok z_2
abbrev L_first_meet_on : List D → FR D := fun xs => match xs with
  | [one, other, phases, channel] => U_first_meet_on one other phases channel
  | _ => .bad
def U_folded (row : D) (many : D) : FR D :=
  (U_sure_hops row).bind fun own_1 => (o2f (addD (D.int 30) (D.int 1))).bind fun z => (U_sure_within many (D.int 1) z).bind fun size_1 => seqU own_1 fun l => (lcU (fun channel => (o2f (modD channel size_1)).bind fun z_2 => .ok z_2) l).bind fun z_1 => (o2f (tupD [(D.lst z_1)])).bind fun z_3 => .ok z_3
abbrev L_folded : List D → FR D := fun xs => match xs with
  | [row, many] => U_folded row many
  | _ => .bad
def U_fraction (above : D) (below : D) : FR D :=
  (U_common above below).bind fun own_1 => (o2f (gtD below (D.int 0))).bind fun z => boolU z fun b => FR.bind (bif b then .ok own_1 else (o2f (negD own_1)).bind fun z_1 => .ok z_1) fun own_3 => (o2f (fdivD above own_3)).bind fun z_2 => (o2f (fdivD below own_3)).bind fun z_3 => .ok (D.tup [z_2, z_3])
abbrev L_fraction : List D → FR D := fun xs => match xs with
  | [above, below] => U_fraction above below
  | _ => .bad
def U_sure_long (row : D) : FR D :=
  (o2f (lenD [row])).bind fun z => (o2f (gtD z (D.int 400))).bind fun z_1 => boolU z_1 fun b => bif b then .er "CanNot" else .ok row
abbrev L_sure_long : List D → FR D := fun xs => match xs with
  | [row] => U_sure_long row
  | _ => .bad
def U_gone_round (row : D) (often : D) : FR D :=
  (U_sure_hops row).bind fun own_1 => (U_sure_within often (D.int 1) (D.int 12)).bind fun z => (o2f (mulD own_1 z)).bind fun z_1 => (U_sure_long z_1).bind fun z_2 => .ok z_2
abbrev L_gone_round : List D → FR D := fun xs => match xs with
  | [row, often] => U_gone_round row often
  | _ => .bad
def U_size_in (length : D) : FR D :=
  aftU (whileU (fun s => (o2f (subD s (D.int 1))).bind fun z => (o2f (mulD s z)).bind fun z_1 => (o2f (addD z_1 (D.int 1))).bind fun z_2 => (o2f (ltD z_2 length)).bind fun z_3 => boolU z_3 fun b => bif b then (o2f (addD s (D.int 1))).bind fun found_2 => .ok (.nx found_2) else .ok (.bk s)) 100000 (D.int 1)) fun s_1 => .ok s_1
abbrev L_size_in : List D → FR D := fun xs => match xs with
  | [length] => U_size_in length
  | _ => .bad
def U_is_barred_in (channels : D) (length : D) : FR D :=
  (U_size_in length).bind fun z => (o2f (mulD channels z)).bind fun z_1 => (o2f (gtD z_1 length)).bind fun z_2 => .ok z_2
abbrev L_is_barred_in : List D → FR D := fun xs => match xs with
  | [channels, length] => U_is_barred_in channels length
  | _ => .bad
def U_meets_at (one : D) (other : D) (gap : D) (slot : D) (channel : D) : FR D :=
  (U_together_in one other).bind fun z => (o2f (subD z (D.int 1))).bind fun z_1 => (U_is_within slot (D.int 0) z_1).bind fun z_2 => boolU z_2 fun b => bif (!b) then .ok (D.bl false) else (o2f (addD gap slot)).bind fun z_3 => (o2f (lenD [one])).bind fun z_4 => (o2f (modD z_3 z_4)).bind fun z_5 => (o2f (idxD one z_5)).bind fun own_1 => (o2f (lenD [other])).bind fun z_6 => (o2f (modD slot z_6)).bind fun z_7 => (o2f (idxD other z_7)).bind fun z_8 => (o2f (eqD own_1 z_8)).bind fun z_9 => boolU z_9 fun b_1 => FR.bind (bif b_1 then (o2f (inD channel (D.tup [D.non, own_1]))).bind fun z_10 => .ok z_10 else .ok (D.bl false)) fun z_11 => .ok z_11
abbrev L_meets_at : List D → FR D := fun xs => match xs with
  | [one, other, gap, slot, channel] => U_meets_at one other gap slot channel
  | _ => .bad
def U_is_paper_against_5 (thing : D) (one : D) (other : D) : FR D :=
  (o2f (enU [thing])).bind fun l => (lcU (fun x => un2 x fun shift own => (U_turned_code one shift).bind fun z_1 => (o2f (idxD z_1 own)).bind fun z_2 => (o2f (idxD other own)).bind fun z_3 => (o2f (neD z_2 z_3)).bind fun z_4 => .ok z_4) l).bind fun z => (o2f (allD [(D.lst z)])).bind fun z_5 => .ok z_5
def U_is_paper_against_4 (thing : D) (one : D) (other : D) : FR D :=
  (o2f (lenD [one])).bind fun z => (U_is_long thing z).bind fun z_1 => boolU z_1 fun b => FR.bind (bif (!b) then .ok true else seqU thing fun l => (lcU (fun own => (o2f (lenD [one])).bind fun z_3 => (o2f (subD z_3 (D.int 1))).bind fun z_4 => (U_is_within own (D.int 0) z_4).bind fun z_5 => .ok z_5) l).bind fun z_2 => (o2f (allD [(D.lst z_2)])).bind fun z_6 => boolU z_6 fun b_1 => .ok (!b_1)) fun b_2 => bif b_2 then .ok (D.bl false) else U_is_paper_against_5 thing one other
def U_is_paper_against_3 (thing : D) (word : D) (one : D) (other : D) : FR D :=
  (o2f (eqD word (D.str "one"))).bind fun z => boolU z fun b => bif b then (U_is_within thing (D.int 0) (D.int 1000000000)).bind fun z_1 => boolU z_1 fun b_1 => FR.bind (bif b_1 then (o2f (lenD [one])).bind fun z_2 => (o2f (modD thing z_2)).bind fun z_3 => (o2f (idxD one z_3)).bind fun z_4 => (o2f (lenD [other])).bind fun z_5 => (o2f (modD thing z_5)).bind fun z_6 => (o2f (idxD other z_6)).bind fun z_7 => (o2f (neD z_4 z_7)).bind fun z_8 => .ok z_8 else .ok (D.bl false)) fun z_9 => .ok z_9 else U_is_paper_against_4 thing one other
def U_is_paper_against_2 (thing : D) (word : D) (one : D) (other : D) : FR D :=
  (o2f (eqD word (D.str "never"))).bind fun z => boolU z fun b => bif b then (U_gaps_in one other).bind fun z_1 => (U_is_long thing z_1).bind fun z_2 => boolU z_2 fun b_1 => bif (!b_1) then .ok (D.bl false) else (o2f (enU [thing])).bind fun l => (lcU (fun x => un2 x fun gap own => (U_meets_at one other gap own D.non).bind fun z_4 => .ok z_4) l).bind fun z_3 => (o2f (allD [(D.lst z_3)])).bind fun z_5 => .ok z_5 else U_is_paper_against_3 thing word one other
def U_is_paper_against_1 (thing : D) (word : D) (one : D) (other : D) : FR D :=
  (o2f (eqD word (D.str "full"))).bind fun z => boolU z fun b => bif b then (o2f ((isD1 .tuple) thing)).bind fun z_1 => boolU z_1 fun b_1 => FR.bind (bif b_1 then (o2f (eqD thing (D.tup [(D.str "nothing")]))).bind fun z_2 => boolU z_2 fun b_2 => .ok b_2 else .ok false) fun b_3 => bif b_3 then (U_shared_in one other).bind fun z_3 => (o2f (eqD z_3 (D.tup []))).bind fun z_4 => .ok z_4 else (U_is_long thing (D.int 2)).bind fun z_5 => boolU z_5 fun b_4 => FR.bind (bif (!b_4) then .ok true else (o2f (idxD thing (D.int 0))).bind fun z_6 => (U_is_number z_6).bind fun z_7 => boolU z_7 fun b_5 => FR.bind (bif (!b_5) then .ok true else (o2f (idxD thing (D.int 0))).bind fun z_8 => (U_shared_in one other).bind fun z_9 => (o2f (ninD z_8 z_9)).bind fun z_10 => boolU z_10 fun b_6 => .ok b_6) fun b_7 => .ok b_7) fun b_8 => bif b_8 then .ok (D.bl false) else (o2f (idxD thing (D.int 1))).bind fun z_11 => (U_are_phases one other z_11).bind fun z_12 => boolU z_12 fun b_9 => FR.bind (bif b_9 then (o2f (idxD thing (D.int 1))).bind fun z_13 => (o2f (idxD thing (D.int 0))).bind fun z_14 => (U_time_in one other z_13 z_14).bind fun z_15 => (o2f (isN z_15 D.non)).bind fun z_16 => .ok z_16 else .ok (D.bl false)) fun z_17 => .ok z_17 else U_is_paper_against_2 thing word one other
def U_is_paper_against (claim : D) (thing : D) : FR D :=
  (o2f (idxD claim (D.int 0))).bind fun z => (o2f (idxD claim (D.int 1))).bind fun z_1 => (o2f (idxD claim (D.int 2))).bind fun z_2 => un3 (D.tup [z, z_1, z_2]) fun word one other => (o2f (eqD word (D.str "meet"))).bind fun z_3 => boolU z_3 fun b => bif b then (U_are_phases one other thing).bind fun z_4 => boolU z_4 fun b_1 => bif (!b_1) then .ok (D.bl false) else (U_time_in one other thing D.non).bind fun found_1 => (o2f (isN found_1 D.non)).bind fun z_5 => boolU z_5 fun b_2 => FR.bind (bif b_2 then .ok (D.bl true) else (o2f (idxD claim (D.int 3))).bind fun z_6 => (o2f (gtD found_1 z_6)).bind fun z_7 => .ok z_7) fun z_8 => .ok z_8 else U_is_paper_against_1 thing word one other
abbrev L_is_paper_against : List D → FR D := fun xs => match xs with
  | [claim, thing] => U_is_paper_against claim thing
  | _ => .bad
def U_is_close_row (one : D) (other : D) (gap : D) (time : D) (thing : D) : FR D :=
  (o2f ((isD1 .tuple) thing)).bind fun z => boolU z fun b => FR.bind (bif (!b) then .ok true else (o2f (eqD thing (D.tup []))).bind fun z_1 => boolU z_1 fun b_1 => .ok b_1) fun b_2 => bif b_2 then .ok (D.bl false) else seqU thing fun l => (lcU (fun own => (U_meets_at one other gap own D.non).bind fun z_3 => .ok z_3) l).bind fun z_2 => (o2f (allD [(D.lst z_2)])).bind fun z_4 => boolU z_4 fun b_3 => bif (!b_3) then .ok (D.bl false) else intU (D.int 1) fun n => (o2f (slD (some n) none thing)).bind fun z_5 => (o2f (zpU [thing, z_5])).bind fun l_1 => (lcU (fun x => un2 x fun near far => (o2f (ltD near far)).bind fun z_7 => .ok z_7) l_1).bind fun z_6 => (o2f (allD [(D.lst z_6)])).bind fun z_8 => boolU z_8 fun b_4 => bif (!b_4) then .ok (D.bl false) else intU (D.int 1) fun n_1 => (o2f (slD (some n_1) none thing)).bind fun z_9 => (o2f (idxD thing (D.int 0))).bind fun z_10 => (U_together_in one other).bind fun z_11 => (o2f (addD z_10 z_11)).bind fun z_12 => (o2f (addD z_9 (D.tup [z_12]))).bind fun ends_1 => (o2f (zpU [thing, ends_1])).bind fun l_2 => (lcU (fun x_1 => un2 x_1 fun near_1 far_1 => (o2f (subD far_1 near_1)).bind fun z_14 => (o2f (leD z_14 time)).bind fun z_15 => .ok z_15) l_2).bind fun z_13 => (o2f (allD [(D.lst z_13)])).bind fun z_16 => .ok z_16
abbrev L_is_close_row : List D → FR D := fun xs => match xs with
  | [one, other, gap, time, thing] => U_is_close_row one other gap time thing
  | _ => .bad
def U_is_code (thing : D) : FR D :=
  (U_is_code_in thing).bind fun z => .ok z
abbrev L_is_code : List D → FR D := fun xs => match xs with
  | [thing] => U_is_code thing
  | _ => .bad
def U_is_counting_bar (one : D) (other : D) (thing : D) : FR D :=
  (U_sure_two one other).bind fun z => un2 z fun near far => (U_is_number thing).bind fun z_1 => boolU z_1 fun b => FR.bind (bif b then (U_bars_in near far).bind fun z_2 => (o2f (inD thing (D.lst z_2))).bind fun z_3 => .ok z_3 else .ok (D.bl false)) fun z_4 => .ok z_4
abbrev L_is_counting_bar : List D → FR D := fun xs => match xs with
  | [one, other, thing] => U_is_counting_bar one other thing
  | _ => .bad
def U_is_even (row : D) : FR D :=
  (U_sure_hops row).bind fun own_1 => (U_channels_in own_1).bind fun z => seqU z fun l => (lcU (fun channel => (U_slots_in own_1 channel).bind fun z_1 => (o2f (lenD [z_1])).bind fun z_2 => .ok z_2) l).bind fun counts_1 => (o2f (minL [(D.lst counts_1)])).bind fun z_3 => (o2f (maxL [(D.lst counts_1)])).bind fun z_4 => (o2f (eqD z_3 z_4)).bind fun z_5 => .ok z_5
abbrev L_is_even : List D → FR D := fun xs => match xs with
  | [row] => U_is_even row
  | _ => .bad
def U_is_long_row (thing : D) : FR D :=
  (U_is_row_in thing).bind fun z => boolU z fun b => FR.bind (bif b then (o2f (lenD [thing])).bind fun z_1 => (o2f (leD z_1 (D.int 1000))).bind fun z_2 => .ok z_2 else .ok (D.bl false)) fun z_3 => .ok z_3
abbrev L_is_long_row : List D → FR D := fun xs => match xs with
  | [thing] => U_is_long_row thing
  | _ => .bad
def U_is_lot_in (thing : D) : FR D :=
  (U_is_long thing (D.int 2)).bind fun z => boolU z fun b => FR.bind (bif (!b) then .ok true else (o2f (idxD thing (D.int 0))).bind fun z_1 => (U_is_within z_1 (D.int 2) (D.int 397)).bind fun z_2 => boolU z_2 fun b_1 => FR.bind (bif (!b_1) then .ok true else (o2f (idxD thing (D.int 0))).bind fun z_3 => (U_is_prime_in z_3).bind fun z_4 => boolU z_4 fun b_2 => .ok (!b_2)) fun b_3 => .ok b_3) fun b_4 => bif b_4 then .ok (D.bl false) else (o2f (idxD thing (D.int 1))).bind fun goods_1 => (o2f ((isD1 .tuple) goods_1)).bind fun z_5 => boolU z_5 fun b_5 => FR.bind (bif (!b_5) then .ok true else (o2f (eqD goods_1 (D.tup []))).bind fun z_6 => boolU z_6 fun b_6 => FR.bind (bif b_6 then .ok true else (o2f (lenD [goods_1])).bind fun z_7 => (o2f (idxD thing (D.int 0))).bind fun z_8 => (o2f (gtD z_7 z_8)).bind fun z_9 => boolU z_9 fun b_7 => .ok b_7) fun b_8 => .ok b_8) fun b_9 => bif b_9 then .ok (D.bl false) else seqU goods_1 fun l => (lcU (fun own => (U_is_within own (D.int 0) (D.int 30)).bind fun z_11 => .ok z_11) l).bind fun z_10 => (o2f (allD [(D.lst z_10)])).bind fun z_12 => boolU z_12 fun b_10 => bif (!b_10) then .ok (D.bl false) else intU (D.int 1) fun n => (o2f (slD (some n) none goods_1)).bind fun z_13 => (o2f (zpU [goods_1, z_13])).bind fun l_1 => (lcU (fun x => un2 x fun one other => (o2f (ltD one other)).bind fun z_15 => .ok z_15) l_1).bind fun z_14 => (o2f (allD [(D.lst z_14)])).bind fun z_16 => .ok z_16
abbrev L_is_lot_in : List D → FR D := fun xs => match xs with
  | [thing] => U_is_lot_in thing
  | _ => .bad
def U_is_piece (thing : D) : FR D :=
  (o2f ((isD1 .str) thing)).bind fun z => boolU z fun b_3 => FR.bind (bif b_3 then (o2f (neD thing (D.str ""))).bind fun z_1 => boolU z_1 fun b_2 => FR.bind (bif b_2 then seqU thing fun l => (lcU (fun sign => (o2f (leD (D.str "!") sign)).bind fun v => boolU v fun b => FR.bind (bif b then o2f (leD sign (D.str "~")) else .ok (D.bl false)) fun z_3 => boolU z_3 fun b_1 => FR.bind (bif b_1 then (o2f (neD sign (D.str "#"))).bind fun z_4 => .ok z_4 else .ok (D.bl false)) fun z_5 => .ok z_5) l).bind fun z_2 => (o2f (allD [(D.lst z_2)])).bind fun z_6 => .ok z_6 else .ok (D.bl false)) fun z_7 => .ok z_7 else .ok (D.bl false)) fun z_8 => .ok z_8
abbrev L_is_piece : List D → FR D := fun xs => match xs with
  | [thing] => U_is_piece thing
  | _ => .bad
def U_sure_many (value : D) (most : D) : FR D :=
  (U_sure_within value (D.int 1) most).bind fun z => .ok z
abbrev L_sure_many : List D → FR D := fun xs => match xs with
  | [value, most] => U_sure_many value most
  | _ => .bad
def U_is_small_row (thing : D) : FR D :=
  (U_is_row_in thing).bind fun z => boolU z fun b => FR.bind (bif b then (o2f (lenD [thing])).bind fun z_1 => (o2f (leD z_1 (D.int 400))).bind fun z_2 => .ok z_2 else .ok (D.bl false)) fun z_3 => .ok z_3
abbrev L_is_small_row : List D → FR D := fun xs => match xs with
  | [thing] => U_is_small_row thing
  | _ => .bad
def U_jump_bound (prime : D) : FR D :=
  (U_sure_prime prime).bind fun z => (o2f (mulD (D.int 3) z)).bind fun z_1 => .ok z_1
abbrev L_jump_bound : List D → FR D := fun xs => match xs with
  | [prime] => U_jump_bound prime
  | _ => .bad
def U_jump_row (prime : D) (clock : D) (stay : D) : FR D :=
  (U_sure_prime prime).bind fun many_1 => (U_sure_clock many_1 clock).bind fun own_1 => (o2f (subD many_1 (D.int 1))).bind fun z => (U_sure_within stay (D.int 0) z).bind fun rest_1 => (o2f (idxD own_1 (D.int 0))).bind fun z_1 => (o2f (eqD z_1 (D.int 0))).bind fun z_2 => boolU z_2 fun b => bif b then .er "Unfit" else (o2f (idxD own_1 (D.int 0))).bind fun z_3 => (o2f (idxD own_1 (D.int 1))).bind fun z_4 => (U_clock_in many_1 z_3 z_4).bind fun z_5 => (o2f (mulD z_5 (D.int 2))).bind fun z_6 => (o2f (mulD (D.tup [rest_1]) many_1)).bind fun z_7 => (o2f (addD z_6 z_7)).bind fun z_8 => .ok z_8
abbrev L_jump_row : List D → FR D := fun xs => match xs with
  | [prime, clock, stay] => U_jump_row prime clock stay
  | _ => .bad
def U_jump_for (channels : D) (rate : D) : FR D :=
  (o2f (addD (D.int 30) (D.int 1))).bind fun z => (U_sure_within channels (D.int 1) z).bind fun many_1 => (U_sure_within rate (D.int 1) (D.int 30)).bind fun often_1 => (o2f (addD (D.int 31) (D.int 1))).bind fun z_1 => (o2f (rg2 [(D.int 2), z_1])).bind fun l => (lcF (fun own => (o2f (geD own many_1)).bind fun z_3 => boolU z_3 fun b => FR.bind (bif b then (U_is_prime_in own).bind fun z_4 => boolU z_4 fun b_1 => .ok b_1 else .ok false) fun b_2 => bif b_2 then .ok (some own) else .ok none) l).bind fun z_2 => (o2f (idxD (D.lst z_2) (D.int 0))).bind fun prime_1 => (o2f (geD often_1 prime_1)).bind fun z_5 => boolU z_5 fun b_3 => bif b_3 then .er "CanNot" else (U_jump_row prime_1 (D.tup [often_1, (D.int 0)]) often_1).bind fun z_6 => (U_folded z_6 many_1).bind fun z_7 => .ok z_7
abbrev L_jump_for : List D → FR D := fun xs => match xs with
  | [channels, rate] => U_jump_for channels rate
  | _ => .bad
def U_least_parts (many : D) : FR D :=
  (U_sure_within many (D.int 1) (D.int 20)).bind fun own_1 => (o2f (mulD own_1 own_1)).bind fun z => .ok z
abbrev L_least_parts : List D → FR D := fun xs => match xs with
  | [many] => U_least_parts many
  | _ => .bad
def U_least_round (row : D) : FR D :=
  (U_sure_hops row).bind fun z => (U_least_in z).bind fun z_1 => .ok z_1
abbrev L_least_round : List D → FR D := fun xs => match xs with
  | [row] => U_least_round row
  | _ => .bad
def U_least_turned (row : D) : FR D :=
  (U_sure_hops row).bind fun z => (U_least_in z).bind fun own_1 => (o2f (lenD [own_1])).bind fun z_1 => (o2f (rg1 [z_1])).bind fun l => (lcU (fun slots => (U_moved_in own_1 slots).bind fun z_3 => .ok z_3) l).bind fun z_2 => (o2f (minL [(D.lst z_2)])).bind fun z_4 => .ok z_4
abbrev L_least_turned : List D → FR D := fun xs => match xs with
  | [row] => U_least_turned row
  | _ => .bad
def U_load (row : D) (channel : D) : FR D :=
  (U_sure_hops row).bind fun own_1 => (U_sure_channel channel).bind fun z => (U_slots_in own_1 z).bind fun z_1 => (o2f (lenD [z_1])).bind fun z_2 => (o2f (lenD [own_1])).bind fun z_3 => (U_fraction z_2 z_3).bind fun z_4 => .ok z_4
abbrev L_load : List D → FR D := fun xs => match xs with
  | [row, channel] => U_load row channel
  | _ => .bad
def U_loads_apart (row : D) : FR D :=
  (U_sure_hops row).bind fun own_1 => (U_channels_in own_1).bind fun z => seqU z fun l => (lcU (fun channel => (U_slots_in own_1 channel).bind fun z_1 => (o2f (lenD [z_1])).bind fun z_2 => .ok z_2) l).bind fun counts_1 => (o2f (maxL [(D.lst counts_1)])).bind fun z_3 => (o2f (minL [(D.lst counts_1)])).bind fun z_4 => (o2f (subD z_3 z_4)).bind fun z_5 => (o2f (lenD [own_1])).bind fun z_6 => (U_fraction z_5 z_6).bind fun z_7 => .ok z_7
abbrev L_loads_apart : List D → FR D := fun xs => match xs with
  | [row] => U_loads_apart row
  | _ => .bad
def U_longest_stay (row : D) : FR D :=
  (U_sure_hops row).bind fun own_1 => (o2f (minL [own_1])).bind fun z => (o2f (maxL [own_1])).bind fun z_1 => (o2f (eqD z z_1)).bind fun z_2 => boolU z_2 fun b => bif b then .ok (D.int 0) else un2 (D.tup [(D.int 1), (D.int 1)]) fun found here => (o2f (addD own_1 own_1)).bind fun twice_1 => (o2f (lenD [twice_1])).bind fun z_3 => (o2f (rg2 [(D.int 1), z_3])).bind fun l => (foldU (fun place s => (o2f (idxD twice_1 place)).bind fun z_4 => (o2f (subD place (D.int 1))).bind fun z_5 => (o2f (idxD twice_1 z_5)).bind fun z_6 => (o2f (eqD z_4 z_6)).bind fun z_7 => boolU z_7 fun b_1 => FR.bind (bif b_1 then (o2f (addD s.2 (D.int 1))).bind fun z_8 => .ok z_8 else .ok (D.int 1)) fun here_2 => (o2f (max2 [s.1, here_2])).bind fun found_2 => .ok (found_2, here_2)) l (found, here)).bind fun s_1 => .ok s_1.1
abbrev L_longest_stay : List D → FR D := fun xs => match xs with
  | [row] => U_longest_stay row
  | _ => .bad
def U_lot_in (lot : D) : FR D :=
  (o2f (idxD lot (D.int 0))).bind fun z => (o2f (rg1 [z])).bind fun l => (lcU (fun slot => (o2f (idxD lot (D.int 1))).bind fun z_2 => (o2f (idxD lot (D.int 1))).bind fun z_3 => (o2f (lenD [z_3])).bind fun z_4 => (o2f (modD slot z_4)).bind fun z_5 => (o2f (idxD z_2 z_5)).bind fun z_6 => .ok z_6) l).bind fun z_1 => (o2f (tupD [(D.lst z_1)])).bind fun z_7 => .ok z_7
abbrev L_lot_in : List D → FR D := fun xs => match xs with
  | [lot] => U_lot_in lot
  | _ => .bad
def U_sure_lot (value : D) : FR D :=
  (U_tupled value).bind fun own_1 => (U_is_lot_in own_1).bind fun z => boolU z fun b => bif (!b) then .er "Unfit" else .ok own_1
abbrev L_sure_lot : List D → FR D := fun xs => match xs with
  | [value] => U_sure_lot value
  | _ => .bad
def U_lot_row (lot : D) : FR D :=
  (U_sure_lot lot).bind fun z => (U_lot_in z).bind fun z_1 => .ok z_1
abbrev L_lot_row : List D → FR D := fun xs => match xs with
  | [lot] => U_lot_row lot
  | _ => .bad
def U_shared_by (one : D) (other : D) : FR D :=
  (o2f (idxD one (D.int 1))).bind fun z => seqU z fun l => (lcF (fun own => (o2f (idxD other (D.int 1))).bind fun z_2 => (o2f (inD own z_2)).bind fun z_3 => boolU z_3 fun b => bif b then .ok (some own) else .ok none) l).bind fun z_1 => (o2f (tupD [(D.lst z_1)])).bind fun z_4 => .ok z_4
abbrev L_shared_by : List D → FR D := fun xs => match xs with
  | [one, other] => U_shared_by one other
  | _ => .bad
def U_lots_bound (one : D) (other : D) : FR D :=
  (U_sure_lot one).bind fun near_1 => (U_sure_lot other).bind fun far_1 => (o2f (idxD near_1 (D.int 0))).bind fun z => (o2f (idxD far_1 (D.int 0))).bind fun z_1 => (o2f (eqD z z_1)).bind fun z_2 => boolU z_2 fun b => FR.bind (bif b then .ok true else (U_shared_by near_1 far_1).bind fun z_3 => (o2f (eqD z_3 (D.tup []))).bind fun z_4 => boolU z_4 fun b_1 => .ok b_1) fun b_2 => bif b_2 then .er "CanNot" else (o2f (idxD near_1 (D.int 0))).bind fun z_5 => (o2f (idxD far_1 (D.int 0))).bind fun z_6 => (o2f (mulD z_5 z_6)).bind fun z_7 => .ok z_7
abbrev L_lots_bound : List D → FR D := fun xs => match xs with
  | [one, other] => U_lots_bound one other
  | _ => .bad
def U_met_in (one : D) (other : D) (phases : D) : FR D :=
  (U_together_in one other).bind fun z => (o2f (rg1 [z])).bind fun l => (foldU (fun slot s => (o2f (idxD phases (D.int 0))).bind fun z_1 => (o2f (addD z_1 slot)).bind fun z_2 => (o2f (lenD [one])).bind fun z_3 => (o2f (modD z_2 z_3)).bind fun z_4 => (o2f (idxD one z_4)).bind fun own_1 => (o2f (idxD phases (D.int 1))).bind fun z_5 => (o2f (addD z_5 slot)).bind fun z_6 => (o2f (lenD [other])).bind fun z_7 => (o2f (modD z_6 z_7)).bind fun z_8 => (o2f (idxD other z_8)).bind fun z_9 => (o2f (eqD own_1 z_9)).bind fun z_10 => boolU z_10 fun b => bif b then (appU s own_1).bind fun found_1 => .ok found_1 else .ok s) l []).bind fun s_1 => (o2f (ssO (D.lst s_1))).bind fun z_11 => (o2f (tupD [(D.lst z_11)])).bind fun z_12 => .ok z_12
abbrev L_met_in : List D → FR D := fun xs => match xs with
  | [one, other, phases] => U_met_in one other phases
  | _ => .bad
def U_meet_channels (one : D) (other : D) (phases : D) : FR D :=
  (U_sure_two one other).bind fun z => un2 z fun near far => (U_sure_phases near far phases).bind fun z_1 => (U_met_in near far z_1).bind fun z_2 => .ok z_2
abbrev L_meet_channels : List D → FR D := fun xs => match xs with
  | [one, other, phases] => U_meet_channels one other phases
  | _ => .bad
def U_meeting_row (one : D) (other : D) (phases : D) : FR D :=
  (U_sure_two one other).bind fun z => un2 z fun near far => (U_sure_phases near far phases).bind fun own_1 => (U_together_in near far).bind fun z_1 => (o2f (rg1 [z_1])).bind fun l => (foldU (fun slot s => (o2f (idxD own_1 (D.int 0))).bind fun z_2 => (o2f (addD z_2 slot)).bind fun z_3 => (o2f (lenD [near])).bind fun z_4 => (o2f (modD z_3 z_4)).bind fun z_5 => (o2f (idxD near z_5)).bind fun here_1 => (o2f (idxD own_1 (D.int 1))).bind fun z_6 => (o2f (addD z_6 slot)).bind fun z_7 => (o2f (lenD [far])).bind fun z_8 => (o2f (modD z_7 z_8)).bind fun z_9 => (o2f (idxD far z_9)).bind fun z_10 => (o2f (eqD here_1 z_10)).bind fun z_11 => boolU z_11 fun b => FR.bind (bif b then .ok here_1 else .ok D.non) fun z_12 => (appU s z_12).bind fun found_1 => .ok found_1) l []).bind fun s_1 => (o2f (tupD [(D.lst s_1)])).bind fun z_13 => .ok z_13
abbrev L_meeting_row : List D → FR D := fun xs => match xs with
  | [one, other, phases] => U_meeting_row one other phases
  | _ => .bad
def U_meetings_many (one : D) (other : D) (phases : D) : FR D :=
  (U_sure_two one other).bind fun z => un2 z fun near far => (U_sure_phases near far phases).bind fun own_1 => (U_together_in near far).bind fun z_1 => (o2f (rg1 [z_1])).bind fun l => (foldU (fun slot s => intU s fun n => (o2f (idxD own_1 (D.int 0))).bind fun z_2 => (o2f (addD z_2 slot)).bind fun z_3 => (o2f (lenD [near])).bind fun z_4 => (o2f (modD z_3 z_4)).bind fun z_5 => (o2f (idxD near z_5)).bind fun z_6 => (o2f (idxD own_1 (D.int 1))).bind fun z_7 => (o2f (addD z_7 slot)).bind fun z_8 => (o2f (lenD [far])).bind fun z_9 => (o2f (modD z_8 z_9)).bind fun z_10 => (o2f (idxD far z_10)).bind fun z_11 => (o2f (eqD z_6 z_11)).bind fun z_12 => (o2f (intD [z_12])).bind fun z_13 => intU z_13 fun m => .ok (D.int (n + m))) l (D.int 0)).bind fun s_1 => .ok s_1
abbrev L_meetings_many : List D → FR D := fun xs => match xs with
  | [one, other, phases] => U_meetings_many one other phases
  | _ => .bad
def U_moved (row : D) (slots : D) : FR D :=
  (U_sure_hops row).bind fun own_1 => (o2f (negD (D.int 1000000000))).bind fun z => (U_sure_within slots z (D.int 1000000000)).bind fun z_1 => (U_moved_in own_1 z_1).bind fun z_2 => .ok z_2
abbrev L_moved : List D → FR D := fun xs => match xs with
  | [row, slots] => U_moved row slots
  | _ => .bad
def U_moved_slots (length : D) (slots : D) (by_ : D) : FR D :=
  (U_sure_round length).bind fun many_1 => (U_sure_slots many_1 slots).bind fun own_1 => (o2f (negD (D.int 400))).bind fun z => (U_sure_within by_ z (D.int 400)).bind fun more_1 => seqU own_1 fun l => (lcU (fun slot => (o2f (addD slot more_1)).bind fun z_2 => (o2f (modD z_2 many_1)).bind fun z_3 => .ok z_3) l).bind fun z_1 => (o2f (sortO [(D.lst z_1)])).bind fun z_4 => (o2f (tupD [(D.lst z_4)])).bind fun z_5 => .ok z_5
abbrev L_moved_slots : List D → FR D := fun xs => match xs with
  | [length, slots, by_] => U_moved_slots length slots by_
  | _ => .bad
def U_ones_in (code : D) : FR D :=
  (U_sure_code code).bind fun z => (o2f (sumD [z])).bind fun z_1 => .ok z_1
abbrev L_ones_in : List D → FR D := fun xs => match xs with
  | [code] => U_ones_in code
  | _ => .bad
def U_pair_counts (one : D) (other : D) (phases : D) : FR D :=
  (U_sure_two one other).bind fun z => un2 z fun near far => (U_sure_phases near far phases).bind fun z_1 => (U_pairs_in near far z_1).bind fun found_1 => (o2f (sortDk [found_1])).bind fun z_2 => (lcU (fun own => (o2f (dgD found_1 own)).bind fun z_4 => .ok (D.tup [own, z_4])) z_2).bind fun z_3 => (o2f (tupD [(D.lst z_3)])).bind fun z_5 => .ok z_5
abbrev L_pair_counts : List D → FR D := fun xs => match xs with
  | [one, other, phases] => U_pair_counts one other phases
  | _ => .bad
def U_pair_length (channels : D) : FR D :=
  (U_sure_many channels (D.int 20)).bind fun many_1 => (o2f (mulD many_1 many_1)).bind fun z => .ok z
abbrev L_pair_length : List D → FR D := fun xs => match xs with
  | [channels] => U_pair_length channels
  | _ => .bad
def U_rest_slot (one : D) (other : D) (gaps : D) : FR D :=
  (U_sure_round one).bind fun near_1 => (U_sure_round other).bind fun far_1 => (U_tupled gaps).bind fun own_1 => (U_is_long own_1 (D.int 2)).bind fun z => boolU z fun b => FR.bind (bif (!b) then .ok true else (o2f (idxD own_1 (D.int 0))).bind fun z_1 => (o2f (subD near_1 (D.int 1))).bind fun z_2 => (U_is_within z_1 (D.int 0) z_2).bind fun z_3 => boolU z_3 fun b_1 => FR.bind (bif (!b_1) then .ok true else (o2f (idxD own_1 (D.int 1))).bind fun z_4 => (o2f (subD far_1 (D.int 1))).bind fun z_5 => (U_is_within z_4 (D.int 0) z_5).bind fun z_6 => boolU z_6 fun b_2 => .ok (!b_2)) fun b_3 => .ok b_3) fun b_4 => bif b_4 then .er "Unfit" else (U_common near_1 far_1).bind fun share_1 => (o2f (idxD own_1 (D.int 1))).bind fun z_7 => (o2f (idxD own_1 (D.int 0))).bind fun z_8 => (o2f (subD z_7 z_8)).bind fun z_9 => (o2f (modD z_9 share_1)).bind fun z_10 => (o2f (neD z_10 (D.int 0))).bind fun z_11 => boolU z_11 fun b_5 => bif b_5 then .er "CanNot" else (o2f (fdivD far_1 share_1)).bind fun many_1 => (o2f (idxD own_1 (D.int 1))).bind fun z_12 => (o2f (idxD own_1 (D.int 0))).bind fun z_13 => (o2f (subD z_12 z_13)).bind fun z_14 => (o2f (fdivD z_14 share_1)).bind fun z_15 => (o2f (fdivD near_1 share_1)).bind fun z_16 => (U_contrary_by z_16 many_1).bind fun z_17 => (o2f (mulD z_15 z_17)).bind fun z_18 => (o2f (modD z_18 many_1)).bind fun steps_1 => (o2f (idxD own_1 (D.int 0))).bind fun z_19 => (o2f (mulD near_1 steps_1)).bind fun z_20 => (o2f (addD z_19 z_20)).bind fun z_21 => .ok z_21
abbrev L_rest_slot : List D → FR D := fun xs => match xs with
  | [one, other, gaps] => U_rest_slot one other gaps
  | _ => .bad
def U_place_slot (one : D) (other : D) (phases : D) (places : D) : FR D :=
  (U_sure_round one).bind fun near_1 => (U_sure_round other).bind fun far_1 => (U_tupled phases).bind fun z => (U_tupled places).bind fun z_1 => seqU (D.lst [z, z_1]) fun l => (foldU (fun own s => (U_is_long own (D.int 2)).bind fun z_2 => boolU z_2 fun b => FR.bind (bif (!b) then .ok true else (o2f (idxD own (D.int 0))).bind fun z_3 => (o2f (subD near_1 (D.int 1))).bind fun z_4 => (U_is_within z_3 (D.int 0) z_4).bind fun z_5 => boolU z_5 fun b_1 => FR.bind (bif (!b_1) then .ok true else (o2f (idxD own (D.int 1))).bind fun z_6 => (o2f (subD far_1 (D.int 1))).bind fun z_7 => (U_is_within z_6 (D.int 0) z_7).bind fun z_8 => boolU z_8 fun b_2 => .ok (!b_2)) fun b_3 => .ok b_3) fun b_4 => bif b_4 then .er "Unfit" else .ok ()) l ()).bind fun s_1 => (o2f (idxD (D.lst [z, z_1]) (D.int 1))).bind fun z_9 => (o2f (idxD z_9 (D.int 0))).bind fun z_10 => (o2f (idxD (D.lst [z, z_1]) (D.int 0))).bind fun z_11 => (o2f (idxD z_11 (D.int 0))).bind fun z_12 => (o2f (subD z_10 z_12)).bind fun z_13 => (o2f (modD z_13 near_1)).bind fun z_14 => (o2f (idxD (D.lst [z, z_1]) (D.int 1))).bind fun z_15 => (o2f (idxD z_15 (D.int 1))).bind fun z_16 => (o2f (idxD (D.lst [z, z_1]) (D.int 0))).bind fun z_17 => (o2f (idxD z_17 (D.int 1))).bind fun z_18 => (o2f (subD z_16 z_18)).bind fun z_19 => (o2f (modD z_19 far_1)).bind fun z_20 => (U_rest_slot near_1 far_1 (D.tup [z_14, z_20])).bind fun z_21 => .ok z_21
abbrev L_place_slot : List D → FR D := fun xs => match xs with
  | [one, other, phases, places] => U_place_slot one other phases places
  | _ => .bad
def U_put_behind (one : D) (other : D) : FR D :=
  (U_sure_hops one).bind fun own_1 => (U_sure_hops other).bind fun z => (o2f (addD own_1 z)).bind fun z_1 => (U_sure_long z_1).bind fun z_2 => .ok z_2
abbrev L_put_behind : List D → FR D := fun xs => match xs with
  | [one, other] => U_put_behind one other
  | _ => .bad
def U_renamed (row : D) (channels : D) : FR D :=
  (U_sure_hops row).bind fun own_1 => (U_tupled channels).bind fun names_1 => (o2f ((isD1 .tuple) names_1)).bind fun z => boolU z fun b => FR.bind (bif (!b) then .ok true else seqU names_1 fun l => (lcU (fun its => (U_is_within its (D.int 0) (D.int 30)).bind fun z_2 => .ok z_2) l).bind fun z_1 => (o2f (allD [(D.lst z_1)])).bind fun z_3 => boolU z_3 fun b_1 => .ok (!b_1)) fun b_2 => bif b_2 then .er "Unfit" else (o2f (maxL [own_1])).bind fun z_4 => (o2f (lenD [names_1])).bind fun z_5 => (o2f (geD z_4 z_5)).bind fun z_6 => boolU z_6 fun b_3 => bif b_3 then .er "CanNot" else seqU own_1 fun l_1 => (lcU (fun channel => (o2f (idxD names_1 channel)).bind fun z_8 => .ok z_8) l_1).bind fun z_7 => (o2f (tupD [(D.lst z_7)])).bind fun z_9 => .ok z_9
abbrev L_renamed : List D → FR D := fun xs => match xs with
  | [row, channels] => U_renamed row channels
  | _ => .bad
def U_row_changed (word : D) (row : D) (goods : D) : FR D :=
  (o2f (eqD word (D.str "move"))).bind fun z => boolU z fun b => bif b then (o2f (idxD goods (D.int 0))).bind fun z_1 => (U_moved_in row z_1).bind fun z_2 => .ok z_2 else (o2f (eqD word (D.str "turn"))).bind fun z_3 => boolU z_3 fun b_1 => bif b_1 then (o2f (downD row)).bind fun z_4 => .ok z_4 else (o2f (eqD word (D.str "stretch"))).bind fun z_5 => boolU z_5 fun b_2 => bif b_2 then (o2f (lenD [row])).bind fun z_6 => (o2f (idxD goods (D.int 0))).bind fun z_7 => (o2f (mulD z_6 z_7)).bind fun z_8 => (o2f (rg1 [z_8])).bind fun l => (lcU (fun place => (o2f (idxD goods (D.int 0))).bind fun z_10 => (o2f (fdivD place z_10)).bind fun z_11 => (o2f (idxD row z_11)).bind fun z_12 => .ok z_12) l).bind fun z_9 => (o2f (tupD [(D.lst z_9)])).bind fun z_13 => .ok z_13 else (o2f (eqD word (D.str "fold"))).bind fun z_14 => boolU z_14 fun b_3 => bif b_3 then seqU row fun l_1 => (lcU (fun channel => (o2f (idxD goods (D.int 0))).bind fun z_16 => (o2f (modD channel z_16)).bind fun z_17 => .ok z_17) l_1).bind fun z_15 => (o2f (tupD [(D.lst z_15)])).bind fun z_18 => .ok z_18 else (o2f (eqD word (D.str "behind"))).bind fun z_19 => boolU z_19 fun b_4 => FR.bind (bif b_4 then (o2f (idxD goods (D.int 0))).bind fun z_20 => (o2f (addD row z_20)).bind fun z_21 => .ok z_21 else (U_least_in row).bind fun z_22 => .ok z_22) fun z_23 => .ok z_23
abbrev L_row_changed : List D → FR D := fun xs => match xs with
  | [word, row, goods] => U_row_changed word row goods
  | _ => .bad
def U_row_made (word : D) (goods : D) : FR D :=
  (o2f (eqD word (D.str "row"))).bind fun z => boolU z fun b => bif b then .ok goods else (o2f (eqD word (D.str "stay"))).bind fun z_1 => boolU z_1 fun b_1 => bif b_1 then .ok goods else (o2f (idxD goods (D.int 0))).bind fun z_2 => (U_is_prime_in z_2).bind fun z_3 => boolU z_3 fun b_2 => FR.bind (bif (!b_2) then .ok true else intU (D.int 1) fun n => (o2f (slD (some n) none goods)).bind fun z_4 => seqU z_4 fun l => (lcU (fun its => (o2f (idxD goods (D.int 0))).bind fun z_6 => (o2f (ltD its z_6)).bind fun z_7 => .ok z_7) l).bind fun z_5 => (o2f (allD [(D.lst z_5)])).bind fun z_8 => boolU z_8 fun b_3 => .ok (!b_3)) fun b_4 => bif b_4 then .ok D.non else (o2f (idxD goods (D.int 0))).bind fun z_9 => (o2f (idxD goods (D.int 1))).bind fun z_10 => (o2f (idxD goods (D.int 2))).bind fun z_11 => (U_clock_in z_9 z_10 z_11).bind fun round_once_1 => (o2f (eqD word (D.str "clock"))).bind fun z_12 => boolU z_12 fun b_5 => bif b_5 then .ok round_once_1 else (o2f (idxD goods (D.int 1))).bind fun z_13 => (o2f (eqD z_13 (D.int 0))).bind fun z_14 => boolU z_14 fun b_6 => FR.bind (bif b_6 then .ok D.non else (o2f (mulD round_once_1 (D.int 2))).bind fun z_15 => (o2f (idxD goods (D.int 3))).bind fun z_16 => (o2f (idxD goods (D.int 0))).bind fun z_17 => (o2f (mulD (D.tup [z_16]) z_17)).bind fun z_18 => (o2f (addD z_15 z_18)).bind fun z_19 => .ok z_19) fun z_20 => .ok z_20
abbrev L_row_made : List D → FR D := fun xs => match xs with
  | [word, goods] => U_row_made word goods
  | _ => .bad
def U_shared_channels (one : D) (other : D) : FR D :=
  (U_sure_two one other).bind fun z => un2 z fun near far => (U_shared_in near far).bind fun z_1 => .ok z_1
abbrev L_shared_channels : List D → FR D := fun xs => match xs with
  | [one, other] => U_shared_channels one other
  | _ => .bad
def U_sure_silent (value : D) : FR D :=
  (U_tupled value).bind fun own_1 => (o2f ((isD1 .tuple) own_1)).bind fun z => boolU z fun b => FR.bind (bif (!b) then .ok true else seqU own_1 fun l => (lcU (fun its => (U_is_within its (D.int 0) (D.int 30)).bind fun z_2 => .ok z_2) l).bind fun z_1 => (o2f (allD [(D.lst z_1)])).bind fun z_3 => boolU z_3 fun b_1 => .ok (!b_1)) fun b_2 => bif b_2 then .er "Unfit" else intU (D.int 1) fun n => (o2f (slD (some n) none own_1)).bind fun z_4 => (o2f (zpU [own_1, z_4])).bind fun l_1 => (lcU (fun x => un2 x fun near far => (o2f (ltD near far)).bind fun z_6 => .ok z_6) l_1).bind fun z_5 => (o2f (allD [(D.lst z_5)])).bind fun z_7 => boolU z_7 fun b_3 => bif (!b_3) then .er "Unfit" else .ok own_1
abbrev L_sure_silent : List D → FR D := fun xs => match xs with
  | [value] => U_sure_silent value
  | _ => .bad
def U_slots_of (row : D) (channel : D) : FR D :=
  (U_sure_hops row).bind fun own_1 => (U_sure_channel channel).bind fun z => (U_slots_in own_1 z).bind fun z_1 => .ok z_1
abbrev L_slots_of : List D → FR D := fun xs => match xs with
  | [row, channel] => U_slots_of row channel
  | _ => .bad
def U_stay_row (channel : D) : FR D :=
  (U_sure_channel channel).bind fun z => .ok (D.tup [z])
abbrev L_stay_row : List D → FR D := fun xs => match xs with
  | [channel] => U_stay_row channel
  | _ => .bad
def U_staying_on (many : D) (slots : D) : FR D :=
  (U_sure_within many (D.int 1) (D.int 20)).bind fun own_1 => (U_sure_within slots (D.int 1) (D.int 20)).bind fun often_1 => (o2f (mulD own_1 often_1)).bind fun z => (o2f (rg1 [z])).bind fun l => (lcU (fun slot => (o2f (fdivD slot often_1)).bind fun z_2 => .ok z_2) l).bind fun z_1 => (o2f (tupD [(D.lst z_1)])).bind fun z_3 => .ok z_3
abbrev L_staying_on : List D → FR D := fun xs => match xs with
  | [many, slots] => U_staying_on many slots
  | _ => .bad
def U_sure_text (text : D) : FR D :=
  (o2f ((isD1 .str) text)).bind fun z => boolU z fun b => FR.bind (bif (!b) then .ok true else (o2f (lenD [text])).bind fun z_1 => (o2f (gtD z_1 (D.int 200000))).bind fun z_2 => boolU z_2 fun b_1 => .ok b_1) fun b_2 => bif b_2 then .er "Unfit" else .ok text
abbrev L_sure_text : List D → FR D := fun xs => match xs with
  | [text] => U_sure_text text
  | _ => .bad
def U_times_slots (length : D) (slots : D) (by_ : D) : FR D :=
  (U_sure_round length).bind fun many_1 => (U_sure_slots many_1 slots).bind fun own_1 => (U_sure_within by_ (D.int 0) (D.int 400)).bind fun often_1 => seqU own_1 fun l => (lcU (fun slot => (o2f (mulD slot often_1)).bind fun z_1 => (o2f (modD z_1 many_1)).bind fun z_2 => .ok z_2) l).bind fun z => (o2f (ssO (D.lst z))).bind fun z_3 => (o2f (tupD [(D.lst z_3)])).bind fun z_4 => .ok z_4
abbrev L_times_slots : List D → FR D := fun xs => match xs with
  | [length, slots, by_] => U_times_slots length slots by_
  | _ => .bad
def U_turned_about (row : D) : FR D :=
  (U_sure_hops row).bind fun z => (o2f (downD z)).bind fun z_1 => .ok z_1
abbrev L_turned_about : List D → FR D := fun xs => match xs with
  | [row] => U_turned_about row
  | _ => .bad
def U_turning_between (one : D) (other : D) : FR D :=
  (U_sure_codes one other).bind fun z => un2 z fun near far => (o2f (lenD [near])).bind fun z_1 => (o2f (rg1 [z_1])).bind fun l => (lcF (fun shift => (U_turned_code near shift).bind fun z_2 => (o2f (eqD z_2 far)).bind fun z_3 => boolU z_3 fun b => bif b then .ok (some shift) else .ok none) l).bind fun found_1 => (o2f (eqD (D.lst found_1) (D.lst []))).bind fun z_4 => boolU z_4 fun b_1 => bif b_1 then .er "CanNot" else (o2f (idxD (D.lst found_1) (D.int 0))).bind fun z_5 => .ok z_5
abbrev L_turning_between : List D → FR D := fun xs => match xs with
  | [one, other] => U_turning_between one other
  | _ => .bad
def U_waiting (many : D) : FR D :=
  (U_sure_within many (D.int 1) (D.int 20)).bind fun own_1 => (o2f (mulD own_1 own_1)).bind fun z => (o2f (rg1 [z])).bind fun l => (lcU (fun slot => (o2f (fdivD slot own_1)).bind fun z_2 => .ok z_2) l).bind fun z_1 => (o2f (tupD [(D.lst z_1)])).bind fun z_3 => .ok z_3
abbrev L_waiting : List D → FR D := fun xs => match xs with
  | [many] => U_waiting many
  | _ => .bad
def U_woven (one : D) (other : D) : FR D :=
  (U_sure_hops one).bind fun own_1 => (U_sure_hops other).bind fun its_1 => (U_together_in own_1 its_1).bind fun many_1 => (o2f (mulD (D.int 2) many_1)).bind fun z => (o2f (gtD z (D.int 400))).bind fun z_1 => boolU z_1 fun b => bif b then .er "CanNot" else (o2f (rg1 [many_1])).bind fun l => (foldU (fun slot s => (o2f (lenD [own_1])).bind fun z_2 => (o2f (modD slot z_2)).bind fun z_3 => (o2f (idxD own_1 z_3)).bind fun z_4 => (o2f (lenD [its_1])).bind fun z_5 => (o2f (modD slot z_5)).bind fun z_6 => (o2f (idxD its_1 z_6)).bind fun z_7 => (o2f (addD s (D.tup [z_4, z_7]))).bind fun found_2 => .ok found_2) l (D.tup [])).bind fun s_1 => .ok s_1
abbrev L_woven : List D → FR D := fun xs => match xs with
  | [one, other] => U_woven one other
  | _ => .bad
end WK

set_option Elab.async false
set_option linter.all false
set_option maxRecDepth 100000
set_option maxHeartbeats 2000000
namespace WK
open PySem PySem.Spec PyProof.Rows L2 DL
theorem u__law_cells : ∀ xs, RefF (F__law_cells xs) (L__law_cells xs)
  | [script, most] => ru_V (p := [.fz script, .fz most, .un, .un, .un, .un]) rfl rfl (by
    have h : ST [.fz script, .fz most, .un, .un, .un, .un] D__law_cells okV _ := (st_setO (be_oor (be_ocb (ba_cons (be_sl (be_var (i := 0) rfl) be_pNo (be_pSome (be_var (i := 1) rfl))) ba_nil)) (be_lst (ba_cons be_c ba_nil) (by decide))) (Q := fun cells => [.fz script, .fz most, .ow 1 cells, .un, .un, .un]) (fun _ => rfl) (fun cells =>
 (st_fold (P := fun (s : List D) => [.fz script, .fz most, .ow 1 s, .any, .any, .any]) (s0 := cells) (bi_en (ba_cons (be_sl (be_var (i := 0) rfl) (be_pSome (be_var (i := 1) rfl)) (be_pSome be_c)) ba_nil)) (wS (wS (wS (wA (wA (wA .nil)))))) (fun x0 s => tg_tup2 (Q := fun k_ bit => [.fz script, .fz most, .ow 1 s, .fz k_, .fz bit, .any]) (fun _ _ => rfl) (fun k_ bit =>
 (st_set (be_op (be_cb (ba_cons (be_var (i := 3) rfl) ba_nil)) (be_var (i := 1) rfl)) (Q := fun at_ => [.fz script, .fz most, .ow 1 s, .fz k_, .fz bit, .fz at_]) (fun _ => rfl) (fun at_ =>
 (st_last (st_put (i := 2) (be_op (be_ixO (i := 2) rfl (be_var (i := 5) rfl) rfl) (be_op (be_var (i := 4) rfl) (be_op (be_var (i := 3) rfl) be_c))) rfl (be_var (i := 5) rfl) rfl (Q := fun cells_2 => [.fz script, .fz most, .ow 1 cells_2, .fz k_, .fz bit, .fz at_]) (fun _ => rfl) (fun cells_2 =>
 (st_end (okN_nx (x := cells_2) (wS (wS (wS (wA (wA (wA .nil)))))))))))))) x0) (fun s_1 =>
 (st_retG (be_varO (i := 2) rfl rfl) okV_rt)))))
    exact h)
  | [] => trivial
  | [_] => trivial
  | _ :: _ :: _ :: _ => trivial
theorem u__law_shared : ∀ xs, RefF (F__law_shared xs) (L__law_shared xs)
  | [one, two] => ru_V (p := [.fz one, .fz two, .un]) rfl rfl (by
    have h : ST [.fz one, .fz two, .un] D__law_shared okV _ := (st_retG (be_cb (ba_cons (be_fz (be_oun (be_fz (be_lcF (bi_sq (be_var (i := 0) rfl)) rfl rfl (turnF_name (fun own => (be_bl (be_op (be_var (i := 2) rfl) (be_var (i := 1) rfl)))) (fun own => (be_var (i := 2) rfl)) (fun _ => WK.refl _) (fun _ => WK.refl _)))))) ba_nil)) okV_rt)
    exact h)
  | [] => trivial
  | [_] => trivial
  | _ :: _ :: _ :: _ => trivial
theorem u__law_common : ∀ xs, RefF (F__law_common xs) (L__law_common xs)
  | [one, two] => ru_V (p := [.fz one, .fz two, .un, .un, .un]) rfl rfl (by
    have h : ST [.fz one, .fz two, .un, .un, .un] D__law_common okV _ := (st_par (ba_cons (be_cb (ba_cons (be_var (i := 0) rfl) ba_nil)) (ba_cons (be_cb (ba_cons (be_var (i := 1) rfl) ba_nil)) ba_nil)) (Q := fun near far => [.fz one, .fz two, .fz near, .fz far, .un]) (fun _ _ => rfl) (fun near far =>
 (st_for (P := fun (s : D × D) => [.fz one, .fz two, .fz s.1, .fz s.2, .any]) (s0 := (near, far)) (bi_r1 (ba_cons be_c ba_nil)) (wS (wS (wS (wS (wA .nil))))) (fun x0 s => tg_name (Q := fun lap => [.fz one, .fz two, .fz s.1, .fz s.2, .fz lap]) (fun _ => rfl) (fun lap =>
 (st_if (be_bl (be_op (be_var (i := 3) rfl) be_c))
 (st_retS (be_var (i := 2) rfl) (okL_rt okV_rt))
 (st_nxt (st_last (st_par (ba_cons (be_var (i := 3) rfl) (ba_cons (be_op (be_var (i := 2) rfl) (be_op (be_op (be_var (i := 2) rfl) (be_var (i := 3) rfl)) (be_var (i := 3) rfl))) ba_nil)) (Q := fun near_1 far_1 => [.fz one, .fz two, .fz near_1, .fz far_1, .fz lap]) (fun _ _ => rfl) (fun near_1 far_1 =>
 (st_end (okL_nx (x := (near_1, far_1)) (wS (wS (wS (wS (wA .nil))))))))))))) x0) (fun s_1 =>
 (st_retG be_c okV_rt)))))
    exact h)
  | [] => trivial
  | [_] => trivial
  | _ :: _ :: _ :: _ => trivial
theorem u__law_round : ∀ xs, RefF (F__law_round xs) (L__law_round xs)
  | [one, two] => ru_V (p := [.fz one, .fz two]) rfl rfl (by
    have h : ST [.fz one, .fz two] D__law_round okV _ := (st_retG (be_op (be_op (be_cb (ba_cons (be_var (i := 0) rfl) ba_nil)) (be_call u__law_common (ba_cons (be_cb (ba_cons (be_var (i := 0) rfl) ba_nil)) (ba_cons (be_cb (ba_cons (be_var (i := 1) rfl) ba_nil)) ba_nil)))) (be_cb (ba_cons (be_var (i := 1) rfl) ba_nil))) okV_rt)
    exact h)
  | [] => trivial
  | [_] => trivial
  | _ :: _ :: _ :: _ => trivial
theorem u__law_spot : ∀ xs, RefF (F__law_spot xs) (L__law_spot xs)
  | [place, many] => ru_V (p := [.fz place, .fz many]) rfl rfl (by
    have h : ST [.fz place, .fz many] D__law_spot okV _ := (st_retG (be_op (be_var (i := 0) rfl) (be_op (be_op (be_var (i := 0) rfl) (be_var (i := 1) rfl)) (be_var (i := 1) rfl))) okV_rt)
    exact h)
  | [] => trivial
  | [_] => trivial
  | _ :: _ :: _ :: _ => trivial
theorem u__law_time : ∀ xs, RefF (F__law_time xs) (L__law_time xs)
  | [one, two, a, b, channel] => ru_V (p := [.fz one, .fz two, .fz a, .fz b, .fz channel, .un, .un]) rfl rfl (by
    have h : ST [.fz one, .fz two, .fz a, .fz b, .fz channel, .un, .un] D__law_time okV _ := (st_find (r := [.fz one, .fz two, .fz a, .fz b, .fz channel, .any, .any]) (bi_r1 (ba_cons (be_call u__law_round (ba_cons (be_var (i := 0) rfl) (ba_cons (be_var (i := 1) rfl) ba_nil))) ba_nil)) (wS (wS (wS (wS (wS (wA (wA .nil))))))) (tg_name (Q := fun k_ => [.fz one, .fz two, .fz a, .fz b, .fz channel, .fz k_, .any]) (fun _ => rfl) (fun k_ =>
 (st_set (be_op (be_var (i := 0) rfl) (be_call u__law_spot (ba_cons (be_op (be_var (i := 2) rfl) (be_var (i := 5) rfl)) (ba_cons (be_cb (ba_cons (be_var (i := 0) rfl) ba_nil)) ba_nil)))) (Q := fun own => [.fz one, .fz two, .fz a, .fz b, .fz channel, .fz k_, .fz own]) (fun _ => rfl) (fun own =>
 (st_last (st_if (be_an (be_bl (be_op (be_var (i := 6) rfl) (be_op (be_var (i := 1) rfl) (be_call u__law_spot (ba_cons (be_op (be_var (i := 3) rfl) (be_var (i := 5) rfl)) (ba_cons (be_cb (ba_cons (be_var (i := 1) rfl) ba_nil)) ba_nil)))))) (be_or (be_bl (be_op (be_var (i := 4) rfl) (be_un be_c))) (be_bl (be_op (be_var (i := 6) rfl) (be_var (i := 4) rfl)))))
 (st_retS (be_op (be_var (i := 5) rfl) be_c) (okF_rt okV_rt))
 (st_nxt (st_end (okF_nx (wS (wS (wS (wS (wS (wA (wA .nil))))))))))))))))
 (st_retG be_c okV_rt))
    exact h)
  | [] => trivial
  | [_] => trivial
  | [_, _] => trivial
  | [_, _, _] => trivial
  | [_, _, _, _] => trivial
  | _ :: _ :: _ :: _ :: _ :: _ :: _ => trivial
theorem u__law_times : ∀ xs, RefF (F__law_times xs) (L__law_times xs)
  | [one, two, channel] => ru_V (p := [.fz one, .fz two, .fz channel, .un, .un, .un]) rfl rfl (by
    have h : ST [.fz one, .fz two, .fz channel, .un, .un, .un] D__law_times okV _ := (st_setO (be_lst ba_nil (by decide)) (Q := fun found => [.fz one, .fz two, .fz channel, .ow 1 found, .un, .un]) (fun _ => rfl) (fun found =>
 (st_fold (P := fun (s : List D) => [.fz one, .fz two, .fz channel, .ow 1 s, .any, .un]) (s0 := found) (bi_r1 (ba_cons (be_cb (ba_cons (be_var (i := 0) rfl) ba_nil)) ba_nil)) (wS (wS (wS (wS (wA (wS .nil)))))) (fun x0 s => tg_name (Q := fun a => [.fz one, .fz two, .fz channel, .ow 1 s, .fz a, .un]) (fun _ => rfl) (fun a =>
 (st_last (st_ext (i := 3) rfl (be_fz (be_lc (bi_r1 (ba_cons (be_cb (ba_cons (be_var (i := 1) rfl) ba_nil)) ba_nil)) rfl rfl (turn_name (fun b => (be_tup (ba_cons (be_tup (ba_cons (be_var (i := 4) rfl) (ba_cons (be_var (i := 5) rfl) ba_nil)) (by decide)) (ba_cons (be_call u__law_time (ba_cons (be_var (i := 0) rfl) (ba_cons (be_var (i := 1) rfl) (ba_cons (be_var (i := 4) rfl) (ba_cons (be_var (i := 5) rfl) (ba_cons (be_var (i := 2) rfl) ba_nil)))))) ba_nil)) (by decide))) (fun _ => WK.refl _)))) rfl (Q := fun found_1 => [.fz one, .fz two, .fz channel, .ow 1 found_1, .fz a, .un]) (fun _ => rfl) (fun found_1 =>
 (st_end (okN_nx (x := found_1) (wS (wS (wS (wS (wA (wS .nil)))))))))))) x0) (fun s_1 =>
 (st_retG (be_varO (i := 3) rfl rfl) okV_rt)))))
    exact h)
  | [] => trivial
  | [_] => trivial
  | [_, _] => trivial
  | _ :: _ :: _ :: _ :: _ => trivial
theorem u__law_worst : ∀ xs, RefF (F__law_worst xs) (L__law_worst xs)
  | [one, two, channel] => ru_V (p := [.fz one, .fz two, .fz channel, .un, .un, .un, .un]) rfl rfl (by
    have h : ST [.fz one, .fz two, .fz channel, .un, .un, .un, .un] D__law_worst okV _ := (st_set (be_call u__law_times (ba_cons (be_var (i := 0) rfl) (ba_cons (be_var (i := 1) rfl) (ba_cons (be_var (i := 2) rfl) ba_nil)))) (Q := fun times => [.fz one, .fz two, .fz channel, .fz times, .un, .un, .un]) (fun _ => rfl) (fun times =>
 (st_set (be_fz (be_lcF (bi_sq (be_var (i := 3) rfl)) rfl rfl (turnF_name (fun own => (be_bl (be_op (be_op (be_var (i := 6) rfl) be_c) be_c))) (fun own => (be_op (be_var (i := 6) rfl) be_c)) (fun _ => WK.refl _) (fun _ => WK.refl _)))) (Q := fun bars => [.fz one, .fz two, .fz channel, .fz times, .fz bars, .un, .un]) (fun _ => rfl) (fun bars =>
 (st_if (be_bl (be_op (be_var (i := 4) rfl) (be_fz (be_lst ba_nil (by decide)))))
 (st_retS (be_tup (ba_cons be_c (ba_cons (be_op (be_var (i := 4) rfl) be_c) ba_nil)) (by decide)) okV_rt)
 (st_nxt (st_set (be_cb (ba_cons (be_fz (be_lc (bi_sq (be_var (i := 3) rfl)) rfl rfl (turn_name (fun own_1 => (be_op (be_var (i := 6) rfl) be_c)) (fun _ => WK.refl _)))) ba_nil)) (Q := fun most => [.fz one, .fz two, .fz channel, .fz times, .fz bars, .fz most, .un]) (fun _ => rfl) (fun most =>
 (st_retG (be_tup (ba_cons (be_var (i := 5) rfl) (ba_cons (be_op (be_fz (be_lcF (bi_sq (be_var (i := 3) rfl)) rfl rfl (turnF_name (fun own_2 => (be_bl (be_op (be_op (be_var (i := 6) rfl) be_c) (be_var (i := 5) rfl)))) (fun own_2 => (be_op (be_var (i := 6) rfl) be_c)) (fun _ => WK.refl _) (fun _ => WK.refl _)))) be_c) ba_nil)) (by decide)) okV_rt)))))))))
    exact h)
  | [] => trivial
  | [_] => trivial
  | [_, _] => trivial
  | _ :: _ :: _ :: _ :: _ => trivial
theorem u__law_channel_times : ∀ xs, RefO (F__law_channel_times xs) (L__law_channel_times xs)
  | [one, two] => ru_O (p := [.fz one, .fz two, .un]) rfl rfl (by
    have h : ST [.fz one, .fz two, .un] D__law_channel_times okO _ := (st_roG (be_lc (bi_sq (be_call u__law_shared (ba_cons (be_var (i := 0) rfl) (ba_cons (be_var (i := 1) rfl) ba_nil)))) rfl rfl (turn_name (fun c => (be_tup (ba_cons (be_var (i := 2) rfl) (ba_cons (be_op (be_call u__law_worst (ba_cons (be_var (i := 0) rfl) (ba_cons (be_var (i := 1) rfl) (ba_cons (be_var (i := 2) rfl) ba_nil)))) be_c) ba_nil)) (by decide))) (fun _ => WK.refl _))) okO_ro)
    exact h)
  | [] => trivial
  | [_] => trivial
  | _ :: _ :: _ :: _ => trivial
theorem u__law_clock : ∀ xs, RefF (F__law_clock xs) (L__law_clock xs)
  | [prime, rate, start_] => ru_V (p := [.fz prime, .fz rate, .fz start_, .un]) rfl rfl (by
    have h : ST [.fz prime, .fz rate, .fz start_, .un] D__law_clock okV _ := (st_retG (be_cb (ba_cons (be_fz (be_lc (bi_r1 (ba_cons (be_var (i := 0) rfl) ba_nil)) rfl rfl (turn_name (fun k_ => (be_op (be_op (be_var (i := 2) rfl) (be_op (be_var (i := 1) rfl) (be_var (i := 3) rfl))) (be_var (i := 0) rfl))) (fun _ => WK.refl _)))) ba_nil)) okV_rt)
    exact h)
  | [] => trivial
  | [_] => trivial
  | [_, _] => trivial
  | _ :: _ :: _ :: _ :: _ => trivial
theorem u__law_common_b : ∀ xs, RefF (F__law_common_b xs) (L__law_common_b xs)
  | [a, b] => ru_V (p := [.fz a, .fz b, .un]) rfl rfl (by
    have h : ST [.fz a, .fz b, .un] D__law_common_b okV _ := (st_for (P := fun (s : D × D) => [.fz s.1, .fz s.2, .any]) (s0 := (a, b)) (bi_r1 (ba_cons be_c ba_nil)) (wS (wS (wA .nil))) (fun x0 s => tg_name (Q := fun lap => [.fz s.1, .fz s.2, .fz lap]) (fun _ => rfl) (fun lap =>
 (st_if (be_bl (be_op (be_var (i := 1) rfl) be_c))
 (st_bkS (okL_bk (x := (s.1, s.2)) (wS (wS (wA .nil)))))
 (st_nxt (st_last (st_par (ba_cons (be_var (i := 1) rfl) (ba_cons (be_op (be_var (i := 0) rfl) (be_var (i := 1) rfl)) ba_nil)) (Q := fun a_1 b_2 => [.fz a_1, .fz b_2, .fz lap]) (fun _ _ => rfl) (fun a_1 b_2 =>
 (st_end (okL_nx (x := (a_1, b_2)) (wS (wS (wA .nil))))))))))) x0) (fun s_1 =>
 (st_retG (be_var (i := 0) rfl) okV_rt)))
    exact h)
  | [] => trivial
  | [_] => trivial
  | _ :: _ :: _ :: _ => trivial
theorem u__law_flat : ∀ xs, RefF (F__law_flat xs) (L__law_flat xs)
  | [rows] => ru_V (p := [.fz rows, .un, .un]) rfl rfl (by
    have h : ST [.fz rows, .un, .un] D__law_flat okV _ := (st_setO (be_lst ba_nil (by decide)) (Q := fun found => [.fz rows, .ow 1 found, .un]) (fun _ => rfl) (fun found =>
 (st_fold (P := fun (s : List D) => [.fz rows, .ow 1 s, .any]) (s0 := found) (bi_sq (be_var (i := 0) rfl)) (wS (wS (wA .nil))) (fun x0 s => tg_name (Q := fun own => [.fz rows, .ow 1 s, .fz own]) (fun _ => rfl) (fun own =>
 (st_last (st_ext (i := 1) rfl (be_var (i := 2) rfl) rfl (Q := fun found_1 => [.fz rows, .ow 1 found_1, .fz own]) (fun _ => rfl) (fun found_1 =>
 (st_end (okN_nx (x := found_1) (wS (wS (wA .nil))))))))) x0) (fun s_1 =>
 (st_retG (be_varO (i := 1) rfl rfl) okV_rt)))))
    exact h)
  | [] => trivial
  | _ :: _ :: _ => trivial
theorem u__law_fraction : ∀ xs, RefF (F__law_fraction xs) (L__law_fraction xs)
  | [above, below] => ru_V (p := [.fz above, .fz below, .un]) rfl rfl (by
    have h : ST [.fz above, .fz below, .un] D__law_fraction okV _ := (st_set (be_call u__law_common (ba_cons (be_var (i := 0) rfl) (ba_cons (be_var (i := 1) rfl) ba_nil))) (Q := fun part => [.fz above, .fz below, .fz part]) (fun _ => rfl) (fun part =>
 (st_retG (be_tup (ba_cons (be_op (be_var (i := 0) rfl) (be_var (i := 2) rfl)) (ba_cons (be_op (be_var (i := 1) rfl) (be_var (i := 2) rfl)) ba_nil)) (by decide)) okV_rt)))
    exact h)
  | [] => trivial
  | [_] => trivial
  | _ :: _ :: _ :: _ => trivial
theorem u__law_full : ∀ xs, RefF (F__law_full xs) (L__law_full xs)
  | [one, two] => ru_V (p := [.fz one, .fz two, .un, .un]) rfl rfl (by
    have h : ST [.fz one, .fz two, .un, .un] D__law_full okV _ := (st_set (be_fz (be_lc (bi_sq (be_callO u__law_channel_times (ba_cons (be_var (i := 0) rfl) (ba_cons (be_var (i := 1) rfl) ba_nil)))) rfl rfl (turn_name (fun own => (be_op (be_var (i := 3) rfl) be_c)) (fun _ => WK.refl _)))) (Q := fun times => [.fz one, .fz two, .fz times, .un]) (fun _ => rfl) (fun times =>
 (st_retG (be_if (be_or (be_bl (be_op (be_var (i := 2) rfl) (be_fz (be_lst ba_nil (by decide))))) (be_bl (be_op be_c (be_var (i := 2) rfl)))) be_c (be_cb (ba_cons (be_var (i := 2) rfl) ba_nil))) okV_rt)))
    exact h)
  | [] => trivial
  | [_] => trivial
  | _ :: _ :: _ :: _ => trivial
theorem u__law_gaps : ∀ xs, RefF (F__law_gaps xs) (L__law_gaps xs)
  | [long, one, two] => ru_V (p := [.fz long, .fz one, .fz two, .un, .un, .un]) rfl rfl (by
    have h : ST [.fz long, .fz one, .fz two, .un, .un, .un] D__law_gaps okV _ := (st_setO (be_oop (be_fz (be_lst (ba_cons be_c ba_nil) (by decide))) (be_var (i := 0) rfl)) (Q := fun found => [.fz long, .fz one, .fz two, .ow 1 found, .un, .un]) (fun _ => rfl) (fun found =>
 (st_fold (P := fun (s : List D) => [.fz long, .fz one, .fz two, .ow 1 s, .any, .any]) (s0 := found) (bi_sq (be_var (i := 1) rfl)) (wS (wS (wS (wS (wA (wA .nil)))))) (fun x0 s => tg_name (Q := fun a => [.fz long, .fz one, .fz two, .ow 1 s, .fz a, .any]) (fun _ => rfl) (fun a =>
 (st_last (st_fold (P := fun (s_2 : List D) => [.fz long, .fz one, .fz two, .ow 1 s_2, .fz a, .any]) (s0 := s) (bi_sq (be_var (i := 2) rfl)) (wS (wS (wS (wS (wS (wS .nil)))))) (fun x0 s_2 => tg_name (Q := fun b => [.fz long, .fz one, .fz two, .ow 1 s_2, .fz a, .fz b]) (fun _ => rfl) (fun b =>
 (st_last (st_put (i := 3) (be_op (be_ixO (i := 3) rfl (be_op (be_op (be_var (i := 4) rfl) (be_var (i := 5) rfl)) (be_var (i := 0) rfl)) rfl) be_c) rfl (be_op (be_op (be_var (i := 4) rfl) (be_var (i := 5) rfl)) (be_var (i := 0) rfl)) rfl (Q := fun found_2 => [.fz long, .fz one, .fz two, .ow 1 found_2, .fz a, .fz b]) (fun _ => rfl) (fun found_2 =>
 (st_end (okN_nx (x := found_2) (wS (wS (wS (wS (wS (wA .nil)))))))))))) x0) (fun s_3 =>
 (st_end (okN_nx (x := s_3) (wS (wS (wS (wS (wA (wS .nil)))))))))))) x0) (fun s_1 =>
 (st_retG (be_varO (i := 3) rfl rfl) okV_rt)))))
    exact h)
  | [] => trivial
  | [_] => trivial
  | [_, _] => trivial
  | _ :: _ :: _ :: _ :: _ => trivial
theorem u__law_take : ∀ t xs, RefT (F__law_take t xs) (L__law_take t xs)
  | tin, [below] => ru_T (p := [.ow 0 tin, .fz below, .un, .un, .un, .un]) rfl rfl (by
    have h : ST [.ow 0 tin, .fz below, .un, .un, .un, .un] D__law_take okT _ := (st_if (be_bl (be_op (be_ixO (i := 0) rfl be_c rfl) be_c))
 (st_seq (st_set (be_op (be_cb (ba_cons (be_ixO (i := 0) rfl be_c rfl) ba_nil)) (be_var (i := 1) rfl)) (Q := fun drawn => [.ow 0 tin, .fz below, .fz drawn, .un, .un, .un]) (fun _ => rfl) (fun drawn =>
 (st_seq (st_put (i := 0) (be_op (be_ixO (i := 0) rfl be_c rfl) (be_var (i := 1) rfl)) rfl be_c rfl (Q := fun tin_1 => [.ow 0 tin_1, .fz below, .fz drawn, .un, .un, .un]) (fun _ => rfl) (fun tin_1 =>
 (st_retS (be_var (i := 2) rfl) (okT_rt rfl))))))))
 (st_nxt (st_put (i := 0) (be_op (be_ixO (i := 0) rfl be_c rfl) be_c) rfl be_c rfl (Q := fun tin_2 => [.ow 0 tin_2, .fz below, .un, .un, .un, .un]) (fun _ => rfl) (fun tin_2 =>
 (st_set (be_op (be_cb (ba_cons (be_op (be_op (be_ixO (i := 0) rfl be_c rfl) (be_op be_c (be_ixO (i := 0) rfl be_c rfl))) (be_op be_c (be_ixO (i := 0) rfl be_c rfl))) ba_nil)) be_c) (Q := fun once => [.ow 0 tin_2, .fz below, .un, .fz once, .un, .un]) (fun _ => rfl) (fun once =>
 (st_set (be_op (be_op (be_cb (ba_cons (be_var (i := 3) rfl) ba_nil)) be_c) be_c) (Q := fun wide => [.ow 0 tin_2, .fz below, .un, .fz once, .fz wide, .un]) (fun _ => rfl) (fun wide =>
 (st_set (be_op (be_cb (ba_cons (be_op (be_op (be_op (be_var (i := 3) rfl) (be_ixO (i := 0) rfl be_c rfl)) (be_op (be_ixO (i := 0) rfl be_c rfl) be_c)) (be_var (i := 4) rfl)) ba_nil)) be_c) (Q := fun twice => [.ow 0 tin_2, .fz below, .un, .fz once, .fz wide, .fz twice]) (fun _ => rfl) (fun twice =>
 (st_retG (be_op (be_cb (ba_cons (be_op (be_op (be_cb (ba_cons (be_op (be_op (be_var (i := 5) rfl) be_c) (be_var (i := 3) rfl)) ba_nil)) be_c) be_c) ba_nil)) (be_var (i := 1) rfl)) (okT_rt rfl))))))))))))
    exact h)
  | _, [] => trivial
  | _, _ :: _ :: _ => trivial
theorem u__law_hops : ∀ t xs, RefT (F__law_hops t xs) (L__law_hops t xs)
  | tin, [long, channels] => ru_T (p := [.ow 0 tin, .fz long, .fz channels, .un]) rfl rfl (by
    have h : ST [.ow 0 tin, .fz long, .fz channels, .un] D__law_hops okT _ := (stT_retG (P := fun t => [.ow 0 t, .fz long, .fz channels, .un]) (t := tin) (bt_cb (bat_cons (bt_fz (bt_lc (bti_r1 (bat_cons (bt_op (bt_of fun _ => be_c) (bt_callT (i := 0) u__law_take (fun _ => rfl) (bat_of fun _ => (ba_cons (be_var (i := 1) rfl) ba_nil)) (fun _ => rfl) (fun _ _ => rfl))) (bat_of fun _ => ba_nil))) (fun _ => rfl) (fun _ => rfl) (fun _ _ => rfl) (turnT_name (fun k_ => (bt_callT (i := 0) u__law_take (fun _ => rfl) (bat_of fun _ => (ba_cons (be_var (i := 2) rfl) ba_nil)) (fun _ => rfl) (fun _ _ => rfl))) (fun _ _ => WK.refl _)))) (bat_of fun _ => ba_nil))) (fun _ _ _ m => okT_rt rfl _ _ m))
    exact h)
  | _, [] => trivial
  | _, [_] => trivial
  | _, _ :: _ :: _ :: _ => trivial
theorem u__law_is_int : ∀ xs, RefF (F__law_is_int xs) (L__law_is_int xs)
  | [k_] => ru_V (p := [.fz k_]) rfl rfl (by
    have h : ST [.fz k_] D__law_is_int okV _ := (st_retG (be_and (be_un (be_var (i := 0) rfl)) (be_un (be_un (be_var (i := 0) rfl)))) okV_rt)
    exact h)
  | [] => trivial
  | _ :: _ :: _ => trivial
theorem w__law_lists {F : FF} {UF : List D → FR D} (hF : ∀ xs, RefF (F xs) (UF xs)) (matter : D) : RefF (runP 2 1 (D__law_lists F) [matter]) (W__law_lists UF matter) := ru_V (p := [.fz matter, .un]) rfl rfl (by
  have h : ST [.fz matter, .un] (D__law_lists F) okV _ := (st_retG (be_if (be_bl (be_un (be_var (i := 0) rfl))) (be_fz (be_lc (bi_sq (be_var (i := 0) rfl)) rfl rfl (turn_name (fun bit => (be_call hF (ba_cons (be_var (i := 1) rfl) ba_nil))) (fun _ => WK.refl _)))) (be_var (i := 0) rfl)) okV_rt)
  exact h)
theorem ur__law_lists : ∀ n xs, RefF (R__law_lists n xs) (UR__law_lists n xs)
  | 0, _ => trivial
  | n + 1, [matter] => w__law_lists (ur__law_lists n) matter
  | _ + 1, [] => trivial
  | _ + 1, _ :: _ :: _ => trivial
theorem u__law_lists : ∀ xs, RefF (F__law_lists xs) (L__law_lists xs) := ur__law_lists 10
theorem u__law_met : ∀ xs, RefO (F__law_met xs) (L__law_met xs)
  | [one, two, a, b] => ru_O (p := [.fz one, .fz two, .fz a, .fz b, .un]) rfl rfl (by
    have h : ST [.fz one, .fz two, .fz a, .fz b, .un] D__law_met okO _ := (st_roG (be_lcF (bi_r1 (ba_cons (be_call u__law_round (ba_cons (be_var (i := 0) rfl) (ba_cons (be_var (i := 1) rfl) ba_nil))) ba_nil)) rfl rfl (turnF_name (fun k_ => (be_bl (be_op (be_op (be_var (i := 0) rfl) (be_call u__law_spot (ba_cons (be_op (be_var (i := 2) rfl) (be_var (i := 4) rfl)) (ba_cons (be_cb (ba_cons (be_var (i := 0) rfl) ba_nil)) ba_nil)))) (be_op (be_var (i := 1) rfl) (be_call u__law_spot (ba_cons (be_op (be_var (i := 3) rfl) (be_var (i := 4) rfl)) (ba_cons (be_cb (ba_cons (be_var (i := 1) rfl) ba_nil)) ba_nil))))))) (fun k_ => (be_var (i := 4) rfl)) (fun _ => WK.refl _) (fun _ => WK.refl _))) okO_ro)
    exact h)
  | [] => trivial
  | [_] => trivial
  | [_, _] => trivial
  | [_, _, _] => trivial
  | _ :: _ :: _ :: _ :: _ :: _ => trivial
theorem u__law_of : ∀ t xs, RefT (F__law_of t xs) (L__law_of t xs)
  | tin, [goods] => ru_T (p := [.ow 0 tin, .fz goods]) rfl rfl (by
    have h : ST [.ow 0 tin, .fz goods] D__law_of okT _ := (stT_retG (P := fun t => [.ow 0 t, .fz goods]) (t := tin) (bt_op (bt_of fun _ => (be_var (i := 1) rfl)) (bt_callT (i := 0) u__law_take (fun _ => rfl) (bat_of fun _ => (ba_cons (be_cb (ba_cons (be_var (i := 1) rfl) ba_nil)) ba_nil)) (fun _ => rfl) (fun _ _ => rfl))) (fun _ _ _ m => okT_rt rfl _ _ m))
    exact h)
  | _, [] => trivial
  | _, _ :: _ :: _ => trivial
theorem u__law_or_bar : ∀ xs, RefF (F__law_or_bar xs) (L__law_or_bar xs)
  | [found] => ru_V (p := [.fz found]) rfl rfl (by
    have h : ST [.fz found] D__law_or_bar okV _ := (st_retG (be_if (be_bl (be_op (be_var (i := 0) rfl) be_c)) (be_fz (be_lst (ba_cons be_c (ba_cons be_c ba_nil)) (by decide))) (be_var (i := 0) rfl)) okV_rt)
    exact h)
  | [] => trivial
  | _ :: _ :: _ => trivial
theorem u__law_row : ∀ t xs, RefT (F__law_row t xs) (L__law_row t xs)
  | tin, [most, many] => ru_T (p := [.ow 0 tin, .fz most, .fz many, .un]) rfl rfl (by
    have h : ST [.ow 0 tin, .fz most, .fz many, .un] D__law_row okT _ := (stT_retG (P := fun t => [.ow 0 t, .fz most, .fz many, .un]) (t := tin) (bt_cb (bat_cons (bt_fz (bt_lc (bti_r1 (bat_cons (bt_op (bt_of fun _ => be_c) (bt_callT (i := 0) u__law_take (fun _ => rfl) (bat_of fun _ => (ba_cons (be_var (i := 1) rfl) ba_nil)) (fun _ => rfl) (fun _ _ => rfl))) (bat_of fun _ => ba_nil))) (fun _ => rfl) (fun _ => rfl) (fun _ _ => rfl) (turnT_name (fun k_ => (bt_callT (i := 0) u__law_take (fun _ => rfl) (bat_of fun _ => (ba_cons (be_var (i := 2) rfl) ba_nil)) (fun _ => rfl) (fun _ _ => rfl))) (fun _ _ => WK.refl _)))) (bat_of fun _ => ba_nil))) (fun _ _ _ m => okT_rt rfl _ _ m))
    exact h)
  | _, [] => trivial
  | _, [_] => trivial
  | _, _ :: _ :: _ :: _ => trivial
theorem w__law_same {F : FF} {UF : List D → FR D} (hF : ∀ xs, RefF (F xs) (UF xs)) (got : D) (due : D) : RefF (runP 4 2 (D__law_same F) [got, due]) (W__law_same UF got due) := ru_V (p := [.fz got, .fz due, .un, .un]) rfl rfl (by
  have h : ST [.fz got, .fz due, .un, .un] (D__law_same F) okV _ := (st_if (be_bl (be_un (be_var (i := 1) rfl)))
 (st_seq (st_if (be_or (be_bl (be_op (be_un (be_var (i := 0) rfl)) (be_un (be_var (i := 1) rfl)))) (be_bl (be_op (be_un (be_var (i := 0) rfl)) (be_un (be_var (i := 1) rfl)))))
 (st_retS be_c okV_rt)
 (st_nxt (st_retS (be_and (be_op (be_cb (ba_cons (be_var (i := 0) rfl) ba_nil)) (be_cb (ba_cons (be_var (i := 1) rfl) ba_nil))) (be_cb (ba_cons (be_fz (be_lc (bi_zp (ba_cons (be_var (i := 0) rfl) (ba_cons (be_var (i := 1) rfl) ba_nil))) rfl rfl (turn_tup2 (fun mine its => (be_call hF (ba_cons (be_var (i := 2) rfl) (ba_cons (be_var (i := 3) rfl) ba_nil)))) (fun _ _ => WK.refl _)))) ba_nil))) okV_rt))))
 (st_nxt (st_if (be_bl (be_op (be_var (i := 1) rfl) be_c))
 (st_retS (be_op (be_var (i := 0) rfl) be_c) okV_rt)
 (st_nxt (st_if (be_bl (be_un (be_var (i := 1) rfl)))
 (st_retS (be_and (be_op (be_un (be_var (i := 0) rfl)) (be_un (be_var (i := 1) rfl))) (be_and (be_op (be_un (be_var (i := 0) rfl)) (be_un (be_var (i := 1) rfl))) (be_op (be_var (i := 0) rfl) (be_var (i := 1) rfl)))) okV_rt)
 (st_nxt (st_retG (be_and (be_un (be_var (i := 0) rfl)) (be_and (be_un (be_un (be_var (i := 0) rfl))) (be_op (be_var (i := 0) rfl) (be_var (i := 1) rfl)))) okV_rt)))))))
  exact h)
theorem ur__law_same : ∀ n xs, RefF (R__law_same n xs) (UR__law_same n xs)
  | 0, _ => trivial
  | n + 1, [got, due] => w__law_same (ur__law_same n) got due
  | _ + 1, [] => trivial
  | _ + 1, [_] => trivial
  | _ + 1, _ :: _ :: _ :: _ => trivial
theorem u__law_same : ∀ xs, RefF (F__law_same xs) (L__law_same xs) := ur__law_same 10
theorem u__law_set : ∀ xs, RefF (F__law_set xs) (L__law_set xs)
  | [goods] => ru_V (p := [.fz goods]) rfl rfl (by
    have h : ST [.fz goods] D__law_set okV _ := (st_retG (be_cb (ba_cons (be_fz (be_oun (be_var (i := 0) rfl))) ba_nil)) okV_rt)
    exact h)
  | [] => trivial
  | _ :: _ :: _ => trivial
theorem u__law_slots : ∀ xs, RefF (F__law_slots xs) (L__law_slots xs)
  | [row, channel] => ru_V (p := [.fz row, .fz channel, .un, .un]) rfl rfl (by
    have h : ST [.fz row, .fz channel, .un, .un] D__law_slots okV _ := (st_retG (be_cb (ba_cons (be_fz (be_lcF (bi_en (ba_cons (be_var (i := 0) rfl) ba_nil)) rfl rfl (turnF_tup2 (fun k_ own => (be_bl (be_op (be_var (i := 3) rfl) (be_var (i := 1) rfl)))) (fun k_ own => (be_var (i := 2) rfl)) (fun _ _ => WK.refl _) (fun _ _ => WK.refl _)))) ba_nil)) okV_rt)
    exact h)
  | [] => trivial
  | [_] => trivial
  | _ :: _ :: _ :: _ => trivial
theorem u__law_time_b : ∀ xs, RefF (F__law_time_b xs) (L__law_time_b xs)
  | [one, two, a, b, channel] => ru_V (p := [.fz one, .fz two, .fz a, .fz b, .fz channel, .un, .un, .un]) rfl rfl (by
    have h : ST [.fz one, .fz two, .fz a, .fz b, .fz channel, .un, .un, .un] D__law_time_b okV _ := (st_set (be_op (be_op (be_cb (ba_cons (be_var (i := 0) rfl) ba_nil)) (be_call u__law_common_b (ba_cons (be_cb (ba_cons (be_var (i := 0) rfl) ba_nil)) (ba_cons (be_cb (ba_cons (be_var (i := 1) rfl) ba_nil)) ba_nil)))) (be_cb (ba_cons (be_var (i := 1) rfl) ba_nil))) (Q := fun many => [.fz one, .fz two, .fz a, .fz b, .fz channel, .fz many, .un, .un]) (fun _ => rfl) (fun many =>
 (st_find (r := [.fz one, .fz two, .fz a, .fz b, .fz channel, .fz many, .any, .any]) (bi_r1 (ba_cons (be_var (i := 5) rfl) ba_nil)) (wS (wS (wS (wS (wS (wS (wA (wA .nil)))))))) (tg_name (Q := fun k_ => [.fz one, .fz two, .fz a, .fz b, .fz channel, .fz many, .fz k_, .any]) (fun _ => rfl) (fun k_ =>
 (st_set (be_op (be_var (i := 0) rfl) (be_op (be_op (be_var (i := 2) rfl) (be_var (i := 6) rfl)) (be_cb (ba_cons (be_var (i := 0) rfl) ba_nil)))) (Q := fun own => [.fz one, .fz two, .fz a, .fz b, .fz channel, .fz many, .fz k_, .fz own]) (fun _ => rfl) (fun own =>
 (st_last (st_if (be_an (be_bl (be_op (be_var (i := 7) rfl) (be_op (be_var (i := 1) rfl) (be_op (be_op (be_var (i := 3) rfl) (be_var (i := 6) rfl)) (be_cb (ba_cons (be_var (i := 1) rfl) ba_nil)))))) (be_or (be_bl (be_op (be_var (i := 4) rfl) be_c)) (be_bl (be_op (be_var (i := 7) rfl) (be_var (i := 4) rfl)))))
 (st_retS (be_op (be_var (i := 6) rfl) be_c) (okF_rt okV_rt))
 (st_nxt (st_end (okF_nx (wS (wS (wS (wS (wS (wS (wA (wA .nil)))))))))))))))))
 (st_retG be_c okV_rt))))
    exact h)
  | [] => trivial
  | [_] => trivial
  | [_, _] => trivial
  | [_, _, _] => trivial
  | [_, _, _, _] => trivial
  | _ :: _ :: _ :: _ :: _ :: _ :: _ => trivial
theorem u__law_unmarked : ∀ xs, RefF (F__law_unmarked xs) (L__law_unmarked xs)
  | [told] => ru_V (p := [.fz told]) rfl rfl (by
    have h : ST [.fz told] D__law_unmarked okV _ := (st_retG (be_if (be_an (be_bl (be_un (be_var (i := 0) rfl))) (be_an (be_bl (be_op (be_cb (ba_cons (be_var (i := 0) rfl) ba_nil)) be_c)) (be_bl (be_un (be_op (be_var (i := 0) rfl) be_c))))) (be_fz (be_lst (ba_cons be_c (ba_cons be_c ba_nil)) (by decide))) (be_var (i := 0) rfl)) okV_rt)
    exact h)
  | [] => trivial
  | _ :: _ :: _ => trivial
theorem u__law_worst_b : ∀ xs, RefF (F__law_worst_b xs) (L__law_worst_b xs)
  | [one, two, channel] => ru_V (p := [.fz one, .fz two, .fz channel, .un, .un, .un, .un, .un]) rfl rfl (by
    have h : ST [.fz one, .fz two, .fz channel, .un, .un, .un, .un, .un] D__law_worst_b okV _ := (st_asg2 (be_tup (ba_cons be_c (ba_cons be_c ba_nil)) (by decide)) (Q := fun found phases => [.fz one, .fz two, .fz channel, .fz found, .fz phases, .un, .un, .un]) (fun _ _ => rfl) (fun found phases =>
 (st_for (P := fun (s : D × D) => [.fz one, .fz two, .fz channel, .fz s.1, .fz s.2, .any, .any, .any]) (s0 := (found, phases)) (bi_r1 (ba_cons (be_cb (ba_cons (be_var (i := 0) rfl) ba_nil)) ba_nil)) (wS (wS (wS (wS (wS (wA (wA (wA .nil)))))))) (fun x0 s => tg_name (Q := fun a => [.fz one, .fz two, .fz channel, .fz s.1, .fz s.2, .fz a, .any, .any]) (fun _ => rfl) (fun a =>
 (st_last (st_for (P := fun (s_2 : D × D) => [.fz one, .fz two, .fz channel, .fz s_2.1, .fz s_2.2, .fz a, .any, .any]) (s0 := (s.1, s.2)) (bi_r1 (ba_cons (be_cb (ba_cons (be_var (i := 1) rfl) ba_nil)) ba_nil)) (wS (wS (wS (wS (wS (wS (wS (wS .nil)))))))) (fun x0 s_2 => tg_name (Q := fun b => [.fz one, .fz two, .fz channel, .fz s_2.1, .fz s_2.2, .fz a, .fz b, .any]) (fun _ => rfl) (fun b =>
 (st_set (be_call u__law_time_b (ba_cons (be_var (i := 0) rfl) (ba_cons (be_var (i := 1) rfl) (ba_cons (be_var (i := 5) rfl) (ba_cons (be_var (i := 6) rfl) (ba_cons (be_var (i := 2) rfl) ba_nil)))))) (Q := fun own => [.fz one, .fz two, .fz channel, .fz s_2.1, .fz s_2.2, .fz a, .fz b, .fz own]) (fun _ => rfl) (fun own =>
 (st_if (be_bl (be_op (be_var (i := 7) rfl) be_c))
 (st_retS (be_tup (ba_cons be_c (ba_cons (be_tup (ba_cons (be_var (i := 5) rfl) (ba_cons (be_var (i := 6) rfl) ba_nil)) (by decide)) ba_nil)) (by decide)) (okL_rt (okL_rt okV_rt)))
 (st_nxt (st_last (st_if (be_bl (be_op (be_var (i := 7) rfl) (be_var (i := 3) rfl)))
 (st_par (ba_cons (be_var (i := 7) rfl) (ba_cons (be_tup (ba_cons (be_var (i := 5) rfl) (ba_cons (be_var (i := 6) rfl) ba_nil)) (by decide)) ba_nil)) (Q := fun found_1 phases_1 => [.fz one, .fz two, .fz channel, .fz found_1, .fz phases_1, .fz a, .fz b, .fz own]) (fun _ _ => rfl) (fun found_1 phases_1 =>
 (st_end (okL_nx (x := (found_1, phases_1)) (wS (wS (wS (wS (wS (wS (wA (wA .nil))))))))))))
 (st_nxt (st_end (okL_nx (x := (s_2.1, s_2.2)) (wS (wS (wS (wS (wS (wS (wA (wA .nil)))))))))))))))))) x0) (fun s_3 =>
 (st_end (okL_nx (x := (s_3.1, s_3.2)) (wS (wS (wS (wS (wS (wA (wS (wS .nil)))))))))))))) x0) (fun s_1 =>
 (st_retG (be_tup (ba_cons (be_var (i := 3) rfl) (ba_cons (be_var (i := 4) rfl) ba_nil)) (by decide)) okV_rt)))))
    exact h)
  | [] => trivial
  | [_] => trivial
  | [_, _] => trivial
  | _ :: _ :: _ :: _ :: _ => trivial
theorem u_common : ∀ xs, RefF (F_common xs) (L_common xs)
  | [one, other] => ru_V (p := [.fz one, .fz other]) rfl rfl (by
    have h : ST [.fz one, .fz other] D_common okV _ := (st_par (ba_cons (be_cb (ba_cons (be_var (i := 0) rfl) ba_nil)) (ba_cons (be_cb (ba_cons (be_var (i := 1) rfl) ba_nil)) ba_nil)) (Q := fun one_1 other_1 => [.fz one_1, .fz other_1]) (fun _ _ => rfl) (fun one_1 other_1 =>
 (st_while (P := fun (s : D × D) => [.fz s.1, .fz s.2]) (s0 := (one_1, other_1)) (wS (wS .nil)) (fun s => st_if0 (be_bl (be_op (be_var (i := 1) rfl) be_c))
 (st_last (st_par (ba_cons (be_var (i := 1) rfl) (ba_cons (be_op (be_var (i := 0) rfl) (be_var (i := 1) rfl)) ba_nil)) (Q := fun one_2 other_2 => [.fz one_2, .fz other_2]) (fun _ _ => rfl) (fun one_2 other_2 =>
 (st_end (okL_nx (x := (one_2, other_2)) (wS (wS .nil)))))))
 (st_bk (okL_bk (x := (s.1, s.2)) (wS (wS .nil))))) (fun s_1 =>
 (st_retG (be_var (i := 0) rfl) okV_rt)))))
    exact h)
  | [] => trivial
  | [_] => trivial
  | _ :: _ :: _ :: _ => trivial
theorem u_round_of : ∀ xs, RefF (F_round_of xs) (L_round_of xs)
  | [rows] => ru_V (p := [.fz rows, .un, .un]) rfl rfl (by
    have h : ST [.fz rows, .un, .un] D_round_of okV _ := (st_set be_c (Q := fun found => [.fz rows, .fz found, .un]) (fun _ => rfl) (fun found =>
 (st_fold (P := fun (s : D) => [.fz rows, .fz s, .any]) (s0 := found) (bi_sq (be_var (i := 0) rfl)) (wS (wS (wA .nil))) (fun x0 s => tg_name (Q := fun row => [.fz rows, .fz s, .fz row]) (fun _ => rfl) (fun row =>
 (st_last (st_set (be_op (be_op (be_var (i := 1) rfl) (be_call u_common (ba_cons (be_var (i := 1) rfl) (ba_cons (be_cb (ba_cons (be_var (i := 2) rfl) ba_nil)) ba_nil)))) (be_cb (ba_cons (be_var (i := 2) rfl) ba_nil))) (Q := fun found_1 => [.fz rows, .fz found_1, .fz row]) (fun _ => rfl) (fun found_1 =>
 (st_end (okN_nx (x := found_1) (wS (wS (wA .nil))))))))) x0) (fun s_1 =>
 (st_if (be_bl (be_op (be_var (i := 1) rfl) be_c))
 st_raiseS
 (st_nxt (st_retG (be_var (i := 1) rfl) okV_rt)))))))
    exact h)
  | [] => trivial
  | _ :: _ :: _ => trivial
theorem u_all_time_in : ∀ xs, RefF (F_all_time_in xs) (L_all_time_in xs)
  | [rows, phases, many] => ru_V (p := [.fz rows, .fz phases, .fz many, .un, .un, .un, .un]) rfl rfl (by
    have h : ST [.fz rows, .fz phases, .fz many, .un, .un, .un, .un] D_all_time_in okV _ := (st_find (r := [.fz rows, .fz phases, .fz many, .any, .any, .un, .un]) (bi_r1 (ba_cons (be_var (i := 2) rfl) ba_nil)) (wS (wS (wS (wA (wA (wS (wS .nil))))))) (tg_name (Q := fun slot => [.fz rows, .fz phases, .fz many, .fz slot, .any, .un, .un]) (fun _ => rfl) (fun slot =>
 (st_set (be_fz (be_lc (bi_zp (ba_cons (be_var (i := 0) rfl) (ba_cons (be_var (i := 1) rfl) ba_nil))) rfl rfl (turn_tup2 (fun row phase => (be_op (be_var (i := 5) rfl) (be_op (be_op (be_var (i := 6) rfl) (be_var (i := 3) rfl)) (be_cb (ba_cons (be_var (i := 5) rfl) ba_nil))))) (fun _ _ => WK.refl _)))) (Q := fun here => [.fz rows, .fz phases, .fz many, .fz slot, .fz here, .un, .un]) (fun _ => rfl) (fun here =>
 (st_last (st_if (be_bl (be_op (be_cb (ba_cons (be_var (i := 4) rfl) ba_nil)) (be_cb (ba_cons (be_var (i := 4) rfl) ba_nil))))
 (st_retS (be_op (be_var (i := 3) rfl) be_c) (okF_rt okV_rt))
 (st_nxt (st_end (okF_nx (wS (wS (wS (wA (wA (wS (wS .nil))))))))))))))))
 (st_retG be_c okV_rt))
    exact h)
  | [] => trivial
  | [_] => trivial
  | [_, _] => trivial
  | _ :: _ :: _ :: _ :: _ => trivial
theorem w_tupled {F : FF} {UF : List D → FR D} (hF : ∀ xs, RefF (F xs) (UF xs)) (value : D) : RefF (runP 2 1 (D_tupled F) [value]) (W_tupled UF value) := ru_V (p := [.fz value, .un]) rfl rfl (by
  have h : ST [.fz value, .un] (D_tupled F) okV _ := (st_retG (be_if (be_bl (be_un (be_var (i := 0) rfl))) (be_cb (ba_cons (be_fz (be_lc (bi_sq (be_var (i := 0) rfl)) rfl rfl (turn_name (fun own => (be_call hF (ba_cons (be_var (i := 1) rfl) ba_nil))) (fun _ => WK.refl _)))) ba_nil)) (be_var (i := 0) rfl)) okV_rt)
  exact h)
theorem ur_tupled : ∀ n xs, RefF (R_tupled n xs) (UR_tupled n xs)
  | 0, _ => trivial
  | n + 1, [value] => w_tupled (ur_tupled n) value
  | _ + 1, [] => trivial
  | _ + 1, _ :: _ :: _ => trivial
theorem u_tupled : ∀ xs, RefF (F_tupled xs) (L_tupled xs) := ur_tupled 10
theorem u_is_number : ∀ xs, RefF (F_is_number xs) (L_is_number xs)
  | [thing] => ru_V (p := [.fz thing]) rfl rfl (by
    have h : ST [.fz thing] D_is_number okV _ := (st_retG (be_and (be_un (be_var (i := 0) rfl)) (be_un (be_un (be_var (i := 0) rfl)))) okV_rt)
    exact h)
  | [] => trivial
  | _ :: _ :: _ => trivial
theorem u_is_within : ∀ xs, RefF (F_is_within xs) (L_is_within xs)
  | [thing, least, most] => ru_V (p := [.fz thing, .fz least, .fz most]) rfl rfl (by
    have h : ST [.fz thing, .fz least, .fz most] D_is_within okV _ := (st_retG (be_and (be_call u_is_number (ba_cons (be_var (i := 0) rfl) ba_nil)) (be_chain (be_var (i := 1) rfl) (be_var (i := 0) rfl) (be_var (i := 2) rfl))) okV_rt)
    exact h)
  | [] => trivial
  | [_] => trivial
  | [_, _] => trivial
  | _ :: _ :: _ :: _ :: _ => trivial
theorem u_is_row_in : ∀ xs, RefF (F_is_row_in xs) (L_is_row_in xs)
  | [thing] => ru_V (p := [.fz thing, .un]) rfl rfl (by
    have h : ST [.fz thing, .un] D_is_row_in okV _ := (st_retG (be_and (be_un (be_var (i := 0) rfl)) (be_and (be_op (be_var (i := 0) rfl) (be_tup ba_nil (by decide))) (be_cb (ba_cons (be_fz (be_lc (bi_sq (be_var (i := 0) rfl)) rfl rfl (turn_name (fun own => (be_call u_is_within (ba_cons (be_var (i := 1) rfl) (ba_cons be_c (ba_cons be_c ba_nil))))) (fun _ => WK.refl _)))) ba_nil)))) okV_rt)
    exact h)
  | [] => trivial
  | _ :: _ :: _ => trivial
theorem u_sure_lot_of_rows : ∀ xs, RefF (F_sure_lot_of_rows xs) (L_sure_lot_of_rows xs)
  | [value] => ru_V (p := [.fz value, .un, .un]) rfl rfl (by
    have h : ST [.fz value, .un, .un] D_sure_lot_of_rows okV _ := (st_set (be_call u_tupled (ba_cons (be_var (i := 0) rfl) ba_nil)) (Q := fun own => [.fz value, .fz own, .un]) (fun _ => rfl) (fun own =>
 (st_if (be_or (be_no (be_bl (be_un (be_var (i := 1) rfl)))) (be_no (be_bl (be_chain be_c (be_cb (ba_cons (be_var (i := 1) rfl) ba_nil)) be_c))))
 st_raiseS
 (st_nxt (st_if (be_no (be_bl (be_cb (ba_cons (be_fz (be_lc (bi_sq (be_var (i := 1) rfl)) rfl rfl (turn_name (fun row => (be_and (be_call u_is_row_in (ba_cons (be_var (i := 2) rfl) ba_nil)) (be_op (be_cb (ba_cons (be_var (i := 2) rfl) ba_nil)) be_c))) (fun _ => WK.refl _)))) ba_nil))))
 st_raiseS
 (st_nxt (st_retG (be_var (i := 1) rfl) okV_rt)))))))
    exact h)
  | [] => trivial
  | _ :: _ :: _ => trivial
theorem u_channels_in : ∀ xs, RefF (F_channels_in xs) (L_channels_in xs)
  | [row] => ru_V (p := [.fz row]) rfl rfl (by
    have h : ST [.fz row] D_channels_in okV _ := (st_retG (be_cb (ba_cons (be_fz (be_oun (be_var (i := 0) rfl))) ba_nil)) okV_rt)
    exact h)
  | [] => trivial
  | _ :: _ :: _ => trivial
theorem u_all_channels : ∀ xs, RefF (F_all_channels xs) (L_all_channels xs)
  | [rows] => ru_V (p := [.fz rows, .un, .un, .un]) rfl rfl (by
    have h : ST [.fz rows, .un, .un, .un] D_all_channels okV _ := (st_set (be_call u_sure_lot_of_rows (ba_cons (be_var (i := 0) rfl) ba_nil)) (Q := fun own => [.fz rows, .fz own, .un, .un]) (fun _ => rfl) (fun own =>
 (st_retG (be_cb (ba_cons (be_fz (be_lcF (bi_sq (be_call u_channels_in (ba_cons (be_op (be_var (i := 1) rfl) be_c) ba_nil))) rfl rfl (turnF_name (fun channel => (be_bl (be_cb (ba_cons (be_fz (be_lc (bi_sq (be_var (i := 1) rfl)) rfl rfl (turn_name (fun row => (be_op (be_var (i := 2) rfl) (be_var (i := 3) rfl))) (fun _ => WK.refl _)))) ba_nil)))) (fun channel => (be_var (i := 2) rfl)) (fun _ => WK.refl _) (fun _ => WK.refl _)))) ba_nil)) okV_rt)))
    exact h)
  | [] => trivial
  | _ :: _ :: _ => trivial
theorem u_sure_places : ∀ xs, RefF (F_sure_places xs) (L_sure_places xs)
  | [rows, value] => ru_V (p := [.fz rows, .fz value, .un, .un, .un]) rfl rfl (by
    have h : ST [.fz rows, .fz value, .un, .un, .un] D_sure_places okV _ := (st_set (be_call u_tupled (ba_cons (be_var (i := 1) rfl) ba_nil)) (Q := fun own => [.fz rows, .fz value, .fz own, .un, .un]) (fun _ => rfl) (fun own =>
 (st_if (be_or (be_no (be_bl (be_un (be_var (i := 2) rfl)))) (be_bl (be_op (be_cb (ba_cons (be_var (i := 2) rfl) ba_nil)) (be_cb (ba_cons (be_var (i := 0) rfl) ba_nil)))))
 st_raiseS
 (st_nxt (st_if (be_no (be_bl (be_cb (ba_cons (be_fz (be_lc (bi_zp (ba_cons (be_var (i := 2) rfl) (ba_cons (be_var (i := 0) rfl) ba_nil))) rfl rfl (turn_tup2 (fun place row => (be_call u_is_within (ba_cons (be_var (i := 3) rfl) (ba_cons be_c (ba_cons (be_op (be_cb (ba_cons (be_var (i := 4) rfl) ba_nil)) be_c) ba_nil))))) (fun _ _ => WK.refl _)))) ba_nil))))
 st_raiseS
 (st_nxt (st_retG (be_var (i := 2) rfl) okV_rt)))))))
    exact h)
  | [] => trivial
  | [_] => trivial
  | _ :: _ :: _ :: _ => trivial
theorem u_all_first : ∀ xs, RefF (F_all_first xs) (L_all_first xs)
  | [rows, phases] => ru_V (p := [.fz rows, .fz phases, .un, .un]) rfl rfl (by
    have h : ST [.fz rows, .fz phases, .un, .un] D_all_first okV _ := (st_set (be_call u_sure_lot_of_rows (ba_cons (be_var (i := 0) rfl) ba_nil)) (Q := fun own => [.fz rows, .fz phases, .fz own, .un]) (fun _ => rfl) (fun own =>
 (st_set (be_call u_sure_places (ba_cons (be_var (i := 2) rfl) (ba_cons (be_var (i := 1) rfl) ba_nil))) (Q := fun places => [.fz rows, .fz phases, .fz own, .fz places]) (fun _ => rfl) (fun places =>
 (st_retG (be_call u_all_time_in (ba_cons (be_var (i := 2) rfl) (ba_cons (be_var (i := 3) rfl) (ba_cons (be_call u_round_of (ba_cons (be_var (i := 2) rfl) ba_nil)) ba_nil)))) okV_rt)))))
    exact h)
  | [] => trivial
  | [_] => trivial
  | _ :: _ :: _ :: _ => trivial
theorem u_sure_hops : ∀ xs, RefF (F_sure_hops xs) (L_sure_hops xs)
  | [value] => ru_V (p := [.fz value, .un]) rfl rfl (by
    have h : ST [.fz value, .un] D_sure_hops okV _ := (st_set (be_call u_tupled (ba_cons (be_var (i := 0) rfl) ba_nil)) (Q := fun own => [.fz value, .fz own]) (fun _ => rfl) (fun own =>
 (st_if (be_or (be_no (be_bl (be_call u_is_row_in (ba_cons (be_var (i := 1) rfl) ba_nil)))) (be_bl (be_op (be_cb (ba_cons (be_var (i := 1) rfl) ba_nil)) be_c)))
 st_raiseS
 (st_nxt (st_retG (be_var (i := 1) rfl) okV_rt)))))
    exact h)
  | [] => trivial
  | _ :: _ :: _ => trivial
theorem u_sure_two : ∀ xs, RefF (F_sure_two xs) (L_sure_two xs)
  | [one, other] => ru_V (p := [.fz one, .fz other, .un]) rfl rfl (by
    have h : ST [.fz one, .fz other, .un] D_sure_two okV _ := (st_set (be_call u_sure_hops (ba_cons (be_var (i := 0) rfl) ba_nil)) (Q := fun near => [.fz one, .fz other, .fz near]) (fun _ => rfl) (fun near =>
 (st_retG (be_tup (ba_cons (be_var (i := 2) rfl) (ba_cons (be_call u_sure_hops (ba_cons (be_var (i := 1) rfl) ba_nil)) ba_nil)) (by decide)) okV_rt)))
    exact h)
  | [] => trivial
  | [_] => trivial
  | _ :: _ :: _ :: _ => trivial
theorem u_slots_in : ∀ xs, RefF (F_slots_in xs) (L_slots_in xs)
  | [row, channel] => ru_V (p := [.fz row, .fz channel, .un, .un]) rfl rfl (by
    have h : ST [.fz row, .fz channel, .un, .un] D_slots_in okV _ := (st_retG (be_cb (ba_cons (be_fz (be_lcF (bi_en (ba_cons (be_var (i := 0) rfl) ba_nil)) rfl rfl (turnF_tup2 (fun place own => (be_bl (be_op (be_var (i := 3) rfl) (be_var (i := 1) rfl)))) (fun place own => (be_var (i := 2) rfl)) (fun _ _ => WK.refl _) (fun _ _ => WK.refl _)))) ba_nil)) okV_rt)
    exact h)
  | [] => trivial
  | [_] => trivial
  | _ :: _ :: _ :: _ => trivial
theorem u_together_in : ∀ xs, RefF (F_together_in xs) (L_together_in xs)
  | [one, other] => ru_V (p := [.fz one, .fz other]) rfl rfl (by
    have h : ST [.fz one, .fz other] D_together_in okV _ := (st_retG (be_op (be_op (be_cb (ba_cons (be_var (i := 0) rfl) ba_nil)) (be_call u_common (ba_cons (be_cb (ba_cons (be_var (i := 0) rfl) ba_nil)) (ba_cons (be_cb (ba_cons (be_var (i := 1) rfl) ba_nil)) ba_nil)))) (be_cb (ba_cons (be_var (i := 1) rfl) ba_nil))) okV_rt)
    exact h)
  | [] => trivial
  | [_] => trivial
  | _ :: _ :: _ :: _ => trivial
theorem u_sure_within : ∀ xs, RefF (F_sure_within xs) (L_sure_within xs)
  | [thing, least, most] => ru_V (p := [.fz thing, .fz least, .fz most]) rfl rfl (by
    have h : ST [.fz thing, .fz least, .fz most] D_sure_within okV _ := (st_if (be_no (be_bl (be_call u_is_within (ba_cons (be_var (i := 0) rfl) (ba_cons (be_var (i := 1) rfl) (ba_cons (be_var (i := 2) rfl) ba_nil))))))
 st_raiseS
 (st_nxt (st_retG (be_var (i := 0) rfl) okV_rt)))
    exact h)
  | [] => trivial
  | [_] => trivial
  | [_, _] => trivial
  | _ :: _ :: _ :: _ :: _ => trivial
theorem u_sure_channel : ∀ xs, RefF (F_sure_channel xs) (L_sure_channel xs)
  | [value] => ru_V (p := [.fz value]) rfl rfl (by
    have h : ST [.fz value] D_sure_channel okV _ := (st_retG (be_call u_sure_within (ba_cons (be_var (i := 0) rfl) (ba_cons be_c (ba_cons be_c ba_nil)))) okV_rt)
    exact h)
  | [] => trivial
  | _ :: _ :: _ => trivial
theorem u_shared_in : ∀ xs, RefF (F_shared_in xs) (L_shared_in xs)
  | [one, other] => ru_V (p := [.fz one, .fz other, .un]) rfl rfl (by
    have h : ST [.fz one, .fz other, .un] D_shared_in okV _ := (st_retG (be_cb (ba_cons (be_fz (be_lcF (bi_sq (be_call u_channels_in (ba_cons (be_var (i := 0) rfl) ba_nil))) rfl rfl (turnF_name (fun own => (be_bl (be_op (be_var (i := 2) rfl) (be_call u_channels_in (ba_cons (be_var (i := 1) rfl) ba_nil))))) (fun own => (be_var (i := 2) rfl)) (fun _ => WK.refl _) (fun _ => WK.refl _)))) ba_nil)) okV_rt)
    exact h)
  | [] => trivial
  | [_] => trivial
  | _ :: _ :: _ :: _ => trivial
theorem u_lots_of : ∀ xs, RefO (F_lots_of xs) (L_lots_of xs)
  | [channels, many] => ru_O (p := [.fz channels, .fz many, .un, .un, .un]) rfl rfl (by
    have h : ST [.fz channels, .fz many, .un, .un, .un] D_lots_of okO _ := (st_set (be_fz (be_lst (ba_cons (be_tup ba_nil (by decide)) ba_nil) (by decide))) (Q := fun found => [.fz channels, .fz many, .fz found, .un, .un]) (fun _ => rfl) (fun found =>
 (st_fold (P := fun (s : D) => [.fz channels, .fz many, .fz s, .any, .un]) (s0 := found) (bi_sq (be_var (i := 0) rfl)) (wS (wS (wS (wA (wS .nil))))) (fun x0 s => tg_name (Q := fun own => [.fz channels, .fz many, .fz s, .fz own, .un]) (fun _ => rfl) (fun own =>
 (st_set (be_op (be_var (i := 2) rfl) (be_fz (be_lcF (bi_sq (be_var (i := 2) rfl)) rfl rfl (turnF_name (fun lot => (be_bl (be_op (be_cb (ba_cons (be_var (i := 4) rfl) ba_nil)) (be_var (i := 1) rfl)))) (fun lot => (be_op (be_var (i := 4) rfl) (be_tup (ba_cons (be_var (i := 3) rfl) ba_nil) (by decide)))) (fun _ => WK.refl _) (fun _ => WK.refl _))))) (Q := fun found_1 => [.fz channels, .fz many, .fz found_1, .fz own, .un]) (fun _ => rfl) (fun found_1 =>
 (st_last (st_if (be_bl (be_op (be_cb (ba_cons (be_var (i := 2) rfl) ba_nil)) be_c))
 st_raiseS
 (st_nxt (st_end (okN_nx (x := found_1) (wS (wS (wS (wA (wS .nil))))))))))))) x0) (fun s_1 =>
 (st_roG (be_ocb (ba_cons (be_fz (be_lcF (bi_sq (be_var (i := 2) rfl)) rfl rfl (turnF_name (fun lot_1 => (be_bl (be_op (be_cb (ba_cons (be_var (i := 4) rfl) ba_nil)) (be_var (i := 1) rfl)))) (fun lot_1 => (be_var (i := 4) rfl)) (fun _ => WK.refl _) (fun _ => WK.refl _)))) ba_nil)) okO_ro)))))
    exact h)
  | [] => trivial
  | [_] => trivial
  | _ :: _ :: _ :: _ => trivial
theorem u_hushed : ∀ xs, RefF (F_hushed xs) (L_hushed xs)
  | [row, silent, mark] => ru_V (p := [.fz row, .fz silent, .fz mark, .un]) rfl rfl (by
    have h : ST [.fz row, .fz silent, .fz mark, .un] D_hushed okV _ := (st_retG (be_cb (ba_cons (be_fz (be_lc (bi_sq (be_var (i := 0) rfl)) rfl rfl (turn_name (fun own => (be_if (be_bl (be_op (be_var (i := 3) rfl) (be_var (i := 1) rfl))) (be_var (i := 2) rfl) (be_var (i := 3) rfl))) (fun _ => WK.refl _)))) ba_nil)) okV_rt)
    exact h)
  | [] => trivial
  | [_] => trivial
  | [_, _] => trivial
  | _ :: _ :: _ :: _ :: _ => trivial
theorem u_is_code_in : ∀ xs, RefF (F_is_code_in xs) (L_is_code_in xs)
  | [thing] => ru_V (p := [.fz thing, .un]) rfl rfl (by
    have h : ST [.fz thing, .un] D_is_code_in okV _ := (st_retG (be_and (be_un (be_var (i := 0) rfl)) (be_and (be_op (be_var (i := 0) rfl) (be_tup ba_nil (by decide))) (be_cb (ba_cons (be_fz (be_lc (bi_sq (be_var (i := 0) rfl)) rfl rfl (turn_name (fun own => (be_call u_is_within (ba_cons (be_var (i := 1) rfl) (ba_cons be_c (ba_cons be_c ba_nil))))) (fun _ => WK.refl _)))) ba_nil)))) okV_rt)
    exact h)
  | [] => trivial
  | _ :: _ :: _ => trivial
theorem u_sure_code : ∀ xs, RefF (F_sure_code xs) (L_sure_code xs)
  | [value] => ru_V (p := [.fz value, .un]) rfl rfl (by
    have h : ST [.fz value, .un] D_sure_code okV _ := (st_set (be_call u_tupled (ba_cons (be_var (i := 0) rfl) ba_nil)) (Q := fun own => [.fz value, .fz own]) (fun _ => rfl) (fun own =>
 (st_if (be_or (be_no (be_bl (be_call u_is_code_in (ba_cons (be_var (i := 1) rfl) ba_nil)))) (be_bl (be_op (be_cb (ba_cons (be_var (i := 1) rfl) ba_nil)) be_c)))
 st_raiseS
 (st_nxt (st_retG (be_var (i := 1) rfl) okV_rt)))))
    exact h)
  | [] => trivial
  | _ :: _ :: _ => trivial
theorem u_sure_codes : ∀ xs, RefF (F_sure_codes xs) (L_sure_codes xs)
  | [one, other] => ru_V (p := [.fz one, .fz other, .un, .un]) rfl rfl (by
    have h : ST [.fz one, .fz other, .un, .un] D_sure_codes okV _ := (st_set (be_call u_sure_code (ba_cons (be_var (i := 0) rfl) ba_nil)) (Q := fun near => [.fz one, .fz other, .fz near, .un]) (fun _ => rfl) (fun near =>
 (st_set (be_call u_sure_code (ba_cons (be_var (i := 1) rfl) ba_nil)) (Q := fun far => [.fz one, .fz other, .fz near, .fz far]) (fun _ => rfl) (fun far =>
 (st_if (be_bl (be_op (be_cb (ba_cons (be_var (i := 2) rfl) ba_nil)) (be_cb (ba_cons (be_var (i := 3) rfl) ba_nil))))
 st_raiseS
 (st_nxt (st_retG (be_tup (ba_cons (be_var (i := 2) rfl) (ba_cons (be_var (i := 3) rfl) ba_nil)) (by decide)) okV_rt)))))))
    exact h)
  | [] => trivial
  | [_] => trivial
  | _ :: _ :: _ :: _ => trivial
theorem u_turned_code : ∀ xs, RefF (F_turned_code xs) (L_turned_code xs)
  | [code, shift] => ru_V (p := [.fz code, .fz shift]) rfl rfl (by
    have h : ST [.fz code, .fz shift] D_turned_code okV _ := (st_retG (be_op (be_sl (be_var (i := 0) rfl) (be_pSome (be_var (i := 1) rfl)) be_pNo) (be_sl (be_var (i := 0) rfl) be_pNo (be_pSome (be_var (i := 1) rfl)))) okV_rt)
    exact h)
  | [] => trivial
  | [_] => trivial
  | _ :: _ :: _ :: _ => trivial
theorem u_time_in : ∀ xs, RefF (F_time_in xs) (L_time_in xs)
  | [one, other, phases, channel] => ru_V (p := [.fz one, .fz other, .fz phases, .fz channel, .un, .un]) rfl rfl (by
    have h : ST [.fz one, .fz other, .fz phases, .fz channel, .un, .un] D_time_in okV _ := (st_find (r := [.fz one, .fz other, .fz phases, .fz channel, .any, .any]) (bi_r1 (ba_cons (be_call u_together_in (ba_cons (be_var (i := 0) rfl) (ba_cons (be_var (i := 1) rfl) ba_nil))) ba_nil)) (wS (wS (wS (wS (wA (wA .nil)))))) (tg_name (Q := fun slot => [.fz one, .fz other, .fz phases, .fz channel, .fz slot, .any]) (fun _ => rfl) (fun slot =>
 (st_set (be_op (be_var (i := 0) rfl) (be_op (be_op (be_op (be_var (i := 2) rfl) be_c) (be_var (i := 4) rfl)) (be_cb (ba_cons (be_var (i := 0) rfl) ba_nil)))) (Q := fun own => [.fz one, .fz other, .fz phases, .fz channel, .fz slot, .fz own]) (fun _ => rfl) (fun own =>
 (st_last (st_if (be_an (be_bl (be_op (be_var (i := 5) rfl) (be_op (be_var (i := 1) rfl) (be_op (be_op (be_op (be_var (i := 2) rfl) be_c) (be_var (i := 4) rfl)) (be_cb (ba_cons (be_var (i := 1) rfl) ba_nil)))))) (be_bl (be_op (be_var (i := 3) rfl) (be_tup (ba_cons be_c (ba_cons (be_var (i := 5) rfl) ba_nil)) (by decide)))))
 (st_retS (be_op (be_var (i := 4) rfl) be_c) (okF_rt okV_rt))
 (st_nxt (st_end (okF_nx (wS (wS (wS (wS (wA (wA .nil)))))))))))))))
 (st_retG be_c okV_rt))
    exact h)
  | [] => trivial
  | [_] => trivial
  | [_, _] => trivial
  | [_, _, _] => trivial
  | _ :: _ :: _ :: _ :: _ :: _ => trivial
theorem u_is_long : ∀ xs, RefF (F_is_long xs) (L_is_long xs)
  | [thing, length] => ru_V (p := [.fz thing, .fz length]) rfl rfl (by
    have h : ST [.fz thing, .fz length] D_is_long okV _ := (st_retG (be_and (be_un (be_var (i := 0) rfl)) (be_op (be_cb (ba_cons (be_var (i := 0) rfl) ba_nil)) (be_var (i := 1) rfl))) okV_rt)
    exact h)
  | [] => trivial
  | [_] => trivial
  | _ :: _ :: _ :: _ => trivial
theorem u_are_barring : ∀ xs, RefF (F_are_barring xs) (L_are_barring xs)
  | [one, other, thing] => ru_V (p := [.fz one, .fz other, .fz thing, .un, .un]) rfl rfl (by
    have h : ST [.fz one, .fz other, .fz thing, .un, .un] D_are_barring okV _ := (st_asg2 (be_call u_sure_two (ba_cons (be_var (i := 0) rfl) (ba_cons (be_var (i := 1) rfl) ba_nil))) (Q := fun near far => [.fz one, .fz other, .fz thing, .fz near, .fz far]) (fun _ _ => rfl) (fun near far =>
 (st_if (be_or (be_no (be_bl (be_call u_is_long (ba_cons (be_var (i := 2) rfl) (ba_cons be_c ba_nil))))) (be_or (be_no (be_bl (be_call u_is_within (ba_cons (be_op (be_var (i := 2) rfl) be_c) (ba_cons be_c (ba_cons (be_op (be_cb (ba_cons (be_var (i := 3) rfl) ba_nil)) be_c) ba_nil)))))) (be_no (be_bl (be_call u_is_within (ba_cons (be_op (be_var (i := 2) rfl) be_c) (ba_cons be_c (ba_cons (be_op (be_cb (ba_cons (be_var (i := 4) rfl) ba_nil)) be_c) ba_nil))))))))
 (st_retS be_c okV_rt)
 (st_nxt (st_retG (be_op (be_call u_time_in (ba_cons (be_var (i := 3) rfl) (ba_cons (be_var (i := 4) rfl) (ba_cons (be_var (i := 2) rfl) (ba_cons be_c ba_nil))))) be_c) okV_rt)))))
    exact h)
  | [] => trivial
  | [_] => trivial
  | [_, _] => trivial
  | _ :: _ :: _ :: _ :: _ => trivial
theorem u_pairs_in : ∀ xs, RefF (F_pairs_in xs) (L_pairs_in xs)
  | [one, other, phases] => ru_V (p := [.fz one, .fz other, .fz phases, .un, .un, .un]) rfl rfl (by
    have h : ST [.fz one, .fz other, .fz phases, .un, .un, .un] D_pairs_in okV _ := (st_setD (q := [.fz one, .fz other, .fz phases, .od [], .un, .un]) rfl
 (st_fold (P := fun (s : List (List Int × D)) => [.fz one, .fz other, .fz phases, .od s, .any, .any]) (s0 := []) (bi_r1 (ba_cons (be_call u_together_in (ba_cons (be_var (i := 0) rfl) (ba_cons (be_var (i := 1) rfl) ba_nil))) ba_nil)) (wS (wS (wS (wS (wA (wA .nil)))))) (fun x0 s => tg_name (Q := fun slot => [.fz one, .fz other, .fz phases, .od s, .fz slot, .any]) (fun _ => rfl) (fun slot =>
 (st_set (be_tup (ba_cons (be_op (be_var (i := 0) rfl) (be_op (be_op (be_op (be_var (i := 2) rfl) be_c) (be_var (i := 4) rfl)) (be_cb (ba_cons (be_var (i := 0) rfl) ba_nil)))) (ba_cons (be_op (be_var (i := 1) rfl) (be_op (be_op (be_op (be_var (i := 2) rfl) be_c) (be_var (i := 4) rfl)) (be_cb (ba_cons (be_var (i := 1) rfl) ba_nil)))) ba_nil)) (by decide)) (Q := fun own => [.fz one, .fz other, .fz phases, .od s, .fz slot, .fz own]) (fun _ => rfl) (fun own =>
 (st_last (st_putD (i := 3) (be_op (be_get (i := 3) rfl (be_var (i := 5) rfl) be_c) be_c) rfl (be_var (i := 5) rfl) rfl (Q := fun found => [.fz one, .fz other, .fz phases, .od found, .fz slot, .fz own]) (fun _ => rfl) (fun found =>
 (st_end (okN_nx (x := found) (wS (wS (wS (wS (wA (wA .nil)))))))))))))) x0) (fun s_1 =>
 (st_retG (be_varD (i := 3) rfl rfl) okV_rt))))
    exact h)
  | [] => trivial
  | [_] => trivial
  | [_, _] => trivial
  | _ :: _ :: _ :: _ :: _ => trivial
theorem u_least_in : ∀ xs, RefF (F_least_in xs) (L_least_in xs)
  | [row] => ru_V (p := [.fz row, .un]) rfl rfl (by
    have h : ST [.fz row, .un] D_least_in okV _ := (st_find (r := [.fz row, .any]) (bi_r2 (ba_cons be_c (ba_cons (be_cb (ba_cons (be_var (i := 0) rfl) ba_nil)) ba_nil))) (wS (wA .nil)) (tg_name (Q := fun length => [.fz row, .fz length]) (fun _ => rfl) (fun length =>
 (st_last (st_if (be_an (be_bl (be_op (be_op (be_cb (ba_cons (be_var (i := 0) rfl) ba_nil)) (be_var (i := 1) rfl)) be_c)) (be_bl (be_op (be_var (i := 0) rfl) (be_op (be_sl (be_var (i := 0) rfl) be_pNo (be_pSome (be_var (i := 1) rfl))) (be_op (be_cb (ba_cons (be_var (i := 0) rfl) ba_nil)) (be_var (i := 1) rfl))))))
 (st_retS (be_sl (be_var (i := 0) rfl) be_pNo (be_pSome (be_var (i := 1) rfl))) (okF_rt okV_rt))
 (st_nxt (st_end (okF_nx (wS (wA .nil)))))))))
 (st_retG (be_var (i := 0) rfl) okV_rt))
    exact h)
  | [] => trivial
  | _ :: _ :: _ => trivial
theorem u_are_one : ∀ xs, RefF (F_are_one xs) (L_are_one xs)
  | [one, other] => ru_V (p := [.fz one, .fz other, .un]) rfl rfl (by
    have h : ST [.fz one, .fz other, .un] D_are_one okV _ := (st_set (be_call u_sure_hops (ba_cons (be_var (i := 0) rfl) ba_nil)) (Q := fun own => [.fz one, .fz other, .fz own]) (fun _ => rfl) (fun own =>
 (st_retG (be_op (be_call u_least_in (ba_cons (be_var (i := 2) rfl) ba_nil)) (be_call u_least_in (ba_cons (be_call u_sure_hops (ba_cons (be_var (i := 1) rfl) ba_nil)) ba_nil))) okV_rt)))
    exact h)
  | [] => trivial
  | [_] => trivial
  | _ :: _ :: _ :: _ => trivial
theorem u_are_phases : ∀ xs, RefF (F_are_phases xs) (L_are_phases xs)
  | [one, other, thing] => ru_V (p := [.fz one, .fz other, .fz thing]) rfl rfl (by
    have h : ST [.fz one, .fz other, .fz thing] D_are_phases okV _ := (st_retG (be_and (be_call u_is_long (ba_cons (be_var (i := 2) rfl) (ba_cons be_c ba_nil))) (be_and (be_call u_is_within (ba_cons (be_op (be_var (i := 2) rfl) be_c) (ba_cons be_c (ba_cons (be_op (be_cb (ba_cons (be_var (i := 0) rfl) ba_nil)) be_c) ba_nil)))) (be_call u_is_within (ba_cons (be_op (be_var (i := 2) rfl) be_c) (ba_cons be_c (ba_cons (be_op (be_cb (ba_cons (be_var (i := 1) rfl) ba_nil)) be_c) ba_nil)))))) okV_rt)
    exact h)
  | [] => trivial
  | [_] => trivial
  | [_, _] => trivial
  | _ :: _ :: _ :: _ :: _ => trivial
theorem u_moved_in : ∀ xs, RefF (F_moved_in xs) (L_moved_in xs)
  | [row, slots] => ru_V (p := [.fz row, .fz slots, .un]) rfl rfl (by
    have h : ST [.fz row, .fz slots, .un] D_moved_in okV _ := (st_set (be_op (be_var (i := 1) rfl) (be_cb (ba_cons (be_var (i := 0) rfl) ba_nil))) (Q := fun start_ => [.fz row, .fz slots, .fz start_]) (fun _ => rfl) (fun start_ =>
 (st_retG (be_op (be_sl (be_var (i := 0) rfl) (be_pSome (be_var (i := 2) rfl)) be_pNo) (be_sl (be_var (i := 0) rfl) be_pNo (be_pSome (be_var (i := 2) rfl)))) okV_rt)))
    exact h)
  | [] => trivial
  | [_] => trivial
  | _ :: _ :: _ :: _ => trivial
theorem u_are_turned : ∀ xs, RefF (F_are_turned xs) (L_are_turned xs)
  | [one, other] => ru_V (p := [.fz one, .fz other, .un, .un, .un]) rfl rfl (by
    have h : ST [.fz one, .fz other, .un, .un, .un] D_are_turned okV _ := (st_set (be_call u_least_in (ba_cons (be_call u_sure_hops (ba_cons (be_var (i := 0) rfl) ba_nil)) ba_nil)) (Q := fun near => [.fz one, .fz other, .fz near, .un, .un]) (fun _ => rfl) (fun near =>
 (st_set (be_call u_least_in (ba_cons (be_call u_sure_hops (ba_cons (be_var (i := 1) rfl) ba_nil)) ba_nil)) (Q := fun far => [.fz one, .fz other, .fz near, .fz far, .un]) (fun _ => rfl) (fun far =>
 (st_retG (be_and (be_op (be_cb (ba_cons (be_var (i := 2) rfl) ba_nil)) (be_cb (ba_cons (be_var (i := 3) rfl) ba_nil))) (be_cb (ba_cons (be_fz (be_lc (bi_r1 (ba_cons (be_cb (ba_cons (be_var (i := 2) rfl) ba_nil)) ba_nil)) rfl rfl (turn_name (fun slots => (be_op (be_call u_moved_in (ba_cons (be_var (i := 2) rfl) (ba_cons (be_var (i := 4) rfl) ba_nil))) (be_var (i := 3) rfl))) (fun _ => WK.refl _)))) ba_nil))) okV_rt)))))
    exact h)
  | [] => trivial
  | [_] => trivial
  | _ :: _ :: _ :: _ => trivial
theorem u_are_turnings : ∀ xs, RefF (F_are_turnings xs) (L_are_turnings xs)
  | [one, other] => ru_V (p := [.fz one, .fz other, .un, .un, .un]) rfl rfl (by
    have h : ST [.fz one, .fz other, .un, .un, .un] D_are_turnings okV _ := (st_asg2 (be_call u_sure_codes (ba_cons (be_var (i := 0) rfl) (ba_cons (be_var (i := 1) rfl) ba_nil))) (Q := fun near far => [.fz one, .fz other, .fz near, .fz far, .un]) (fun _ _ => rfl) (fun near far =>
 (st_retG (be_cb (ba_cons (be_fz (be_lc (bi_r1 (ba_cons (be_cb (ba_cons (be_var (i := 2) rfl) ba_nil)) ba_nil)) rfl rfl (turn_name (fun shift => (be_op (be_call u_turned_code (ba_cons (be_var (i := 2) rfl) (ba_cons (be_var (i := 4) rfl) ba_nil))) (be_var (i := 3) rfl))) (fun _ => WK.refl _)))) ba_nil)) okV_rt)))
    exact h)
  | [] => trivial
  | [_] => trivial
  | _ :: _ :: _ :: _ => trivial
theorem u_counts_in : ∀ xs, RefF (F_counts_in xs) (L_counts_in xs)
  | [one, other, channel] => ru_V (p := [.fz one, .fz other, .fz channel]) rfl rfl (by
    have h : ST [.fz one, .fz other, .fz channel] D_counts_in okV _ := (st_retG (be_op (be_cb (ba_cons (be_call u_slots_in (ba_cons (be_var (i := 0) rfl) (ba_cons (be_var (i := 2) rfl) ba_nil))) ba_nil)) (be_cb (ba_cons (be_call u_slots_in (ba_cons (be_var (i := 1) rfl) (ba_cons (be_var (i := 2) rfl) ba_nil))) ba_nil))) okV_rt)
    exact h)
  | [] => trivial
  | [_] => trivial
  | [_, _] => trivial
  | _ :: _ :: _ :: _ :: _ => trivial
theorem u_bars_in : ∀ xs, RefO (F_bars_in xs) (L_bars_in xs)
  | [one, other] => ru_O (p := [.fz one, .fz other, .un, .un]) rfl rfl (by
    have h : ST [.fz one, .fz other, .un, .un] D_bars_in okO _ := (st_set (be_call u_common (ba_cons (be_cb (ba_cons (be_var (i := 0) rfl) ba_nil)) (ba_cons (be_cb (ba_cons (be_var (i := 1) rfl) ba_nil)) ba_nil))) (Q := fun need => [.fz one, .fz other, .fz need, .un]) (fun _ => rfl) (fun need =>
 (st_roG (be_lcF (bi_sq (be_call u_shared_in (ba_cons (be_var (i := 0) rfl) (ba_cons (be_var (i := 1) rfl) ba_nil)))) rfl rfl (turnF_name (fun own => (be_bl (be_op (be_call u_counts_in (ba_cons (be_var (i := 0) rfl) (ba_cons (be_var (i := 1) rfl) (ba_cons (be_var (i := 3) rfl) ba_nil)))) (be_var (i := 2) rfl)))) (fun own => (be_var (i := 3) rfl)) (fun _ => WK.refl _) (fun _ => WK.refl _))) okO_ro)))
    exact h)
  | [] => trivial
  | [_] => trivial
  | _ :: _ :: _ :: _ => trivial
theorem u_channel_at : ∀ xs, RefF (F_channel_at xs) (L_channel_at xs)
  | [row, slot] => ru_V (p := [.fz row, .fz slot, .un]) rfl rfl (by
    have h : ST [.fz row, .fz slot, .un] D_channel_at okV _ := (st_set (be_call u_sure_hops (ba_cons (be_var (i := 0) rfl) ba_nil)) (Q := fun own => [.fz row, .fz slot, .fz own]) (fun _ => rfl) (fun own =>
 (st_retG (be_op (be_var (i := 2) rfl) (be_op (be_call u_sure_within (ba_cons (be_var (i := 1) rfl) (ba_cons be_c (ba_cons be_c ba_nil)))) (be_cb (ba_cons (be_var (i := 2) rfl) ba_nil)))) okV_rt)))
    exact h)
  | [] => trivial
  | [_] => trivial
  | _ :: _ :: _ :: _ => trivial
theorem u_channels_of : ∀ xs, RefF (F_channels_of xs) (L_channels_of xs)
  | [row] => ru_V (p := [.fz row]) rfl rfl (by
    have h : ST [.fz row] D_channels_of okV _ := (st_retG (be_call u_channels_in (ba_cons (be_call u_sure_hops (ba_cons (be_var (i := 0) rfl) ba_nil)) ba_nil)) okV_rt)
    exact h)
  | [] => trivial
  | _ :: _ :: _ => trivial
theorem u_chosen_of : ∀ xs, RefO (F_chosen_of xs) (L_chosen_of xs)
  | [goods, many] => ru_O (p := [.fz goods, .fz many, .un, .un, .un]) rfl rfl (by
    have h : ST [.fz goods, .fz many, .un, .un, .un] D_chosen_of okO _ := (st_set (be_fz (be_lst (ba_cons (be_tup ba_nil (by decide)) ba_nil) (by decide))) (Q := fun found => [.fz goods, .fz many, .fz found, .un, .un]) (fun _ => rfl) (fun found =>
 (st_fold (P := fun (s : D) => [.fz goods, .fz many, .fz s, .any, .un]) (s0 := found) (bi_sq (be_var (i := 0) rfl)) (wS (wS (wS (wA (wS .nil))))) (fun x0 s => tg_name (Q := fun own => [.fz goods, .fz many, .fz s, .fz own, .un]) (fun _ => rfl) (fun own =>
 (st_last (st_set (be_op (be_var (i := 2) rfl) (be_fz (be_lcF (bi_sq (be_var (i := 2) rfl)) rfl rfl (turnF_name (fun lot => (be_bl (be_op (be_cb (ba_cons (be_var (i := 4) rfl) ba_nil)) (be_var (i := 1) rfl)))) (fun lot => (be_op (be_var (i := 4) rfl) (be_tup (ba_cons (be_var (i := 3) rfl) ba_nil) (by decide)))) (fun _ => WK.refl _) (fun _ => WK.refl _))))) (Q := fun found_1 => [.fz goods, .fz many, .fz found_1, .fz own, .un]) (fun _ => rfl) (fun found_1 =>
 (st_end (okN_nx (x := found_1) (wS (wS (wS (wA (wS .nil))))))))))) x0) (fun s_1 =>
 (st_roG (be_lcF (bi_sq (be_var (i := 2) rfl)) rfl rfl (turnF_name (fun lot_1 => (be_bl (be_op (be_cb (ba_cons (be_var (i := 4) rfl) ba_nil)) (be_var (i := 1) rfl)))) (fun lot_1 => (be_var (i := 4) rfl)) (fun _ => WK.refl _) (fun _ => WK.refl _))) okO_ro)))))
    exact h)
  | [] => trivial
  | [_] => trivial
  | _ :: _ :: _ :: _ => trivial
theorem u_turnings_of : ∀ xs, RefO (F_turnings_of xs) (L_turnings_of xs)
  | [one, other] => ru_O (p := [.fz one, .fz other, .un]) rfl rfl (by
    have h : ST [.fz one, .fz other, .un] D_turnings_of okO _ := (st_roG (be_lcF (bi_r1 (ba_cons (be_cb (ba_cons (be_var (i := 0) rfl) ba_nil)) ba_nil)) rfl rfl (turnF_name (fun shift => (be_bl (be_op (be_call u_turned_code (ba_cons (be_var (i := 0) rfl) (ba_cons (be_var (i := 2) rfl) ba_nil))) (be_var (i := 1) rfl)))) (fun shift => (be_var (i := 2) rfl)) (fun _ => WK.refl _) (fun _ => WK.refl _))) okO_ro)
    exact h)
  | [] => trivial
  | [_] => trivial
  | _ :: _ :: _ :: _ => trivial
theorem u_slots_met : ∀ xs, RefF (F_slots_met xs) (L_slots_met xs)
  | [one, other, gap, channel] => ru_V (p := [.fz one, .fz other, .fz gap, .fz channel, .un, .un, .un]) rfl rfl (by
    have h : ST [.fz one, .fz other, .fz gap, .fz channel, .un, .un, .un] D_slots_met okV _ := (st_setO (be_lst ba_nil (by decide)) (Q := fun found => [.fz one, .fz other, .fz gap, .fz channel, .ow 1 found, .un, .un]) (fun _ => rfl) (fun found =>
 (st_fold (P := fun (s : List D) => [.fz one, .fz other, .fz gap, .fz channel, .ow 1 s, .any, .any]) (s0 := found) (bi_r1 (ba_cons (be_call u_together_in (ba_cons (be_var (i := 0) rfl) (ba_cons (be_var (i := 1) rfl) ba_nil))) ba_nil)) (wS (wS (wS (wS (wS (wA (wA .nil))))))) (fun x0 s => tg_name (Q := fun slot => [.fz one, .fz other, .fz gap, .fz channel, .ow 1 s, .fz slot, .any]) (fun _ => rfl) (fun slot =>
 (st_set (be_op (be_var (i := 0) rfl) (be_op (be_op (be_var (i := 2) rfl) (be_var (i := 5) rfl)) (be_cb (ba_cons (be_var (i := 0) rfl) ba_nil)))) (Q := fun own => [.fz one, .fz other, .fz gap, .fz channel, .ow 1 s, .fz slot, .fz own]) (fun _ => rfl) (fun own =>
 (st_last (st_if (be_an (be_bl (be_op (be_var (i := 6) rfl) (be_op (be_var (i := 1) rfl) (be_op (be_var (i := 5) rfl) (be_cb (ba_cons (be_var (i := 1) rfl) ba_nil)))))) (be_bl (be_op (be_var (i := 3) rfl) (be_tup (ba_cons be_c (ba_cons (be_var (i := 6) rfl) ba_nil)) (by decide)))))
 (st_app (i := 4) rfl (be_var (i := 5) rfl) rfl (Q := fun found_1 => [.fz one, .fz other, .fz gap, .fz channel, .ow 1 found_1, .fz slot, .fz own]) (fun _ => rfl) (fun found_1 =>
 (st_end (okN_nx (x := found_1) (wS (wS (wS (wS (wS (wA (wA .nil)))))))))))
 (st_nxt (st_end (okN_nx (x := s) (wS (wS (wS (wS (wS (wA (wA .nil))))))))))))))) x0) (fun s_1 =>
 (st_retG (be_cb (ba_cons (be_varO (i := 4) rfl rfl) ba_nil)) okV_rt)))))
    exact h)
  | [] => trivial
  | [_] => trivial
  | [_, _] => trivial
  | [_, _, _] => trivial
  | _ :: _ :: _ :: _ :: _ :: _ => trivial
theorem u_gaps_in : ∀ xs, RefF (F_gaps_in xs) (L_gaps_in xs)
  | [one, other] => ru_V (p := [.fz one, .fz other]) rfl rfl (by
    have h : ST [.fz one, .fz other] D_gaps_in okV _ := (st_retG (be_call u_common (ba_cons (be_cb (ba_cons (be_var (i := 0) rfl) ba_nil)) (ba_cons (be_cb (ba_cons (be_var (i := 1) rfl) ba_nil)) ba_nil))) okV_rt)
    exact h)
  | [] => trivial
  | [_] => trivial
  | _ :: _ :: _ :: _ => trivial
theorem u_clock_in : ∀ xs, RefF (F_clock_in xs) (L_clock_in xs)
  | [prime, rate, start_] => ru_V (p := [.fz prime, .fz rate, .fz start_, .un]) rfl rfl (by
    have h : ST [.fz prime, .fz rate, .fz start_, .un] D_clock_in okV _ := (st_retG (be_cb (ba_cons (be_fz (be_lc (bi_r1 (ba_cons (be_var (i := 0) rfl) ba_nil)) rfl rfl (turn_name (fun slot => (be_op (be_op (be_var (i := 2) rfl) (be_op (be_var (i := 1) rfl) (be_var (i := 3) rfl))) (be_var (i := 0) rfl))) (fun _ => WK.refl _)))) ba_nil)) okV_rt)
    exact h)
  | [] => trivial
  | [_] => trivial
  | [_, _] => trivial
  | _ :: _ :: _ :: _ :: _ => trivial
theorem u_is_prime_in : ∀ xs, RefF (F_is_prime_in xs) (L_is_prime_in xs)
  | [number] => ru_V (p := [.fz number, .un]) rfl rfl (by
    have h : ST [.fz number, .un] D_is_prime_in okV _ := (st_retG (be_and (be_op (be_var (i := 0) rfl) be_c) (be_cb (ba_cons (be_fz (be_lcF (bi_r2 (ba_cons be_c (ba_cons (be_var (i := 0) rfl) ba_nil))) rfl rfl (turnF_name (fun own => (be_bl (be_op (be_op (be_var (i := 1) rfl) (be_var (i := 1) rfl)) (be_var (i := 0) rfl)))) (fun own => (be_op (be_op (be_var (i := 0) rfl) (be_var (i := 1) rfl)) be_c)) (fun _ => WK.refl _) (fun _ => WK.refl _)))) ba_nil))) okV_rt)
    exact h)
  | [] => trivial
  | _ :: _ :: _ => trivial
theorem u_sure_prime : ∀ xs, RefF (F_sure_prime xs) (L_sure_prime xs)
  | [value] => ru_V (p := [.fz value]) rfl rfl (by
    have h : ST [.fz value] D_sure_prime okV _ := (st_if (be_or (be_no (be_bl (be_call u_is_within (ba_cons (be_var (i := 0) rfl) (ba_cons be_c (ba_cons be_c ba_nil)))))) (be_no (be_bl (be_call u_is_prime_in (ba_cons (be_var (i := 0) rfl) ba_nil)))))
 st_raiseS
 (st_nxt (st_retG (be_var (i := 0) rfl) okV_rt)))
    exact h)
  | [] => trivial
  | _ :: _ :: _ => trivial
theorem u_sure_clock : ∀ xs, RefF (F_sure_clock xs) (L_sure_clock xs)
  | [prime, value] => ru_V (p := [.fz prime, .fz value, .un, .un]) rfl rfl (by
    have h : ST [.fz prime, .fz value, .un, .un] D_sure_clock okV _ := (st_set (be_call u_tupled (ba_cons (be_var (i := 1) rfl) ba_nil)) (Q := fun own => [.fz prime, .fz value, .fz own, .un]) (fun _ => rfl) (fun own =>
 (st_if (be_or (be_no (be_bl (be_call u_is_long (ba_cons (be_var (i := 2) rfl) (ba_cons be_c ba_nil))))) (be_no (be_bl (be_cb (ba_cons (be_fz (be_lc (bi_sq (be_var (i := 2) rfl)) rfl rfl (turn_name (fun its => (be_call u_is_within (ba_cons (be_var (i := 3) rfl) (ba_cons be_c (ba_cons (be_op (be_var (i := 0) rfl) be_c) ba_nil))))) (fun _ => WK.refl _)))) ba_nil)))))
 st_raiseS
 (st_nxt (st_retG (be_var (i := 2) rfl) okV_rt)))))
    exact h)
  | [] => trivial
  | [_] => trivial
  | _ :: _ :: _ :: _ => trivial
theorem u_contrary_by : ∀ xs, RefF (F_contrary_by xs) (L_contrary_by xs)
  | [number, length] => ru_V (p := [.fz number, .fz length, .un]) rfl rfl (by
    have h : ST [.fz number, .fz length, .un] D_contrary_by okV _ := (st_retG (be_op (be_fz (be_lcF (bi_r1 (ba_cons (be_var (i := 1) rfl) ba_nil)) rfl rfl (turnF_name (fun own => (be_bl (be_op (be_op (be_op (be_var (i := 2) rfl) (be_var (i := 0) rfl)) (be_var (i := 1) rfl)) (be_op be_c (be_var (i := 1) rfl))))) (fun own => (be_var (i := 2) rfl)) (fun _ => WK.refl _) (fun _ => WK.refl _)))) be_c) okV_rt)
    exact h)
  | [] => trivial
  | [_] => trivial
  | _ :: _ :: _ :: _ => trivial
theorem u_clock_meet : ∀ xs, RefF (F_clock_meet xs) (L_clock_meet xs)
  | [prime, one, other] => ru_V (p := [.fz prime, .fz one, .fz other, .un, .un, .un, .un, .un]) rfl rfl (by
    have h : ST [.fz prime, .fz one, .fz other, .un, .un, .un, .un, .un] D_clock_meet okV _ := (st_set (be_call u_sure_prime (ba_cons (be_var (i := 0) rfl) ba_nil)) (Q := fun many => [.fz prime, .fz one, .fz other, .fz many, .un, .un, .un, .un]) (fun _ => rfl) (fun many =>
 (st_set (be_call u_sure_clock (ba_cons (be_var (i := 3) rfl) (ba_cons (be_var (i := 1) rfl) ba_nil))) (Q := fun near => [.fz prime, .fz one, .fz other, .fz many, .fz near, .un, .un, .un]) (fun _ => rfl) (fun near =>
 (st_set (be_call u_sure_clock (ba_cons (be_var (i := 3) rfl) (ba_cons (be_var (i := 2) rfl) ba_nil))) (Q := fun far => [.fz prime, .fz one, .fz other, .fz many, .fz near, .fz far, .un, .un]) (fun _ => rfl) (fun far =>
 (st_par (ba_cons (be_op (be_op (be_op (be_var (i := 4) rfl) be_c) (be_op (be_var (i := 5) rfl) be_c)) (be_var (i := 3) rfl)) (ba_cons (be_op (be_op (be_op (be_var (i := 5) rfl) be_c) (be_op (be_var (i := 4) rfl) be_c)) (be_var (i := 3) rfl)) ba_nil)) (Q := fun rate gap => [.fz prime, .fz one, .fz other, .fz many, .fz near, .fz far, .fz rate, .fz gap]) (fun _ _ => rfl) (fun rate gap =>
 (st_if (be_an (be_bl (be_op (be_var (i := 6) rfl) be_c)) (be_bl (be_op (be_var (i := 7) rfl) be_c)))
 st_raiseS
 (st_nxt (st_retG (be_if (be_bl (be_op (be_var (i := 6) rfl) be_c)) be_c (be_op (be_op (be_var (i := 7) rfl) (be_call u_contrary_by (ba_cons (be_var (i := 6) rfl) (ba_cons (be_var (i := 3) rfl) ba_nil)))) (be_var (i := 3) rfl))) okV_rt)))))))))))
    exact h)
  | [] => trivial
  | [_] => trivial
  | [_, _] => trivial
  | _ :: _ :: _ :: _ :: _ => trivial
theorem u_clock_row : ∀ xs, RefF (F_clock_row xs) (L_clock_row xs)
  | [prime, clock] => ru_V (p := [.fz prime, .fz clock, .un, .un]) rfl rfl (by
    have h : ST [.fz prime, .fz clock, .un, .un] D_clock_row okV _ := (st_set (be_call u_sure_prime (ba_cons (be_var (i := 0) rfl) ba_nil)) (Q := fun many => [.fz prime, .fz clock, .fz many, .un]) (fun _ => rfl) (fun many =>
 (st_set (be_call u_sure_clock (ba_cons (be_var (i := 2) rfl) (ba_cons (be_var (i := 1) rfl) ba_nil))) (Q := fun own => [.fz prime, .fz clock, .fz many, .fz own]) (fun _ => rfl) (fun own =>
 (st_retG (be_call u_clock_in (ba_cons (be_var (i := 2) rfl) (ba_cons (be_op (be_var (i := 3) rfl) be_c) (ba_cons (be_op (be_var (i := 3) rfl) be_c) ba_nil)))) okV_rt)))))
    exact h)
  | [] => trivial
  | [_] => trivial
  | _ :: _ :: _ :: _ => trivial
theorem u_sure_block : ∀ xs, RefF (F_sure_block xs) (L_sure_block xs)
  | [code, many] => ru_V (p := [.fz code, .fz many, .un]) rfl rfl (by
    have h : ST [.fz code, .fz many, .un] D_sure_block okV _ := (st_set (be_op (be_op be_c (be_var (i := 1) rfl)) (be_var (i := 1) rfl)) (Q := fun block => [.fz code, .fz many, .fz block]) (fun _ => rfl) (fun block =>
 (st_if (be_bl (be_op (be_op (be_var (i := 2) rfl) (be_cb (ba_cons (be_var (i := 0) rfl) ba_nil))) be_c))
 st_raiseS
 (st_nxt (st_retG (be_var (i := 2) rfl) okV_rt)))))
    exact h)
  | [] => trivial
  | [_] => trivial
  | _ :: _ :: _ :: _ => trivial
theorem u_code_bound : ∀ xs, RefF (F_code_bound xs) (L_code_bound xs)
  | [code, many] => ru_V (p := [.fz code, .fz many, .un, .un]) rfl rfl (by
    have h : ST [.fz code, .fz many, .un, .un] D_code_bound okV _ := (st_set (be_call u_sure_code (ba_cons (be_var (i := 0) rfl) ba_nil)) (Q := fun own => [.fz code, .fz many, .fz own, .un]) (fun _ => rfl) (fun own =>
 (st_set (be_call u_sure_within (ba_cons (be_var (i := 1) rfl) (ba_cons be_c (ba_cons be_c ba_nil)))) (Q := fun often => [.fz code, .fz many, .fz own, .fz often]) (fun _ => rfl) (fun often =>
 (st_retG (be_op (be_call u_sure_block (ba_cons (be_var (i := 2) rfl) (ba_cons (be_var (i := 3) rfl) ba_nil))) (be_cb (ba_cons (be_var (i := 2) rfl) ba_nil))) okV_rt)))))
    exact h)
  | [] => trivial
  | [_] => trivial
  | _ :: _ :: _ :: _ => trivial
theorem u_code_row : ∀ xs, RefF (F_code_row xs) (L_code_row xs)
  | [code, many] => ru_V (p := [.fz code, .fz many, .un, .un, .un, .un, .un, .un]) rfl rfl (by
    have h : ST [.fz code, .fz many, .un, .un, .un, .un, .un, .un] D_code_row okV _ := (st_set (be_call u_sure_code (ba_cons (be_var (i := 0) rfl) ba_nil)) (Q := fun own => [.fz code, .fz many, .fz own, .un, .un, .un, .un, .un]) (fun _ => rfl) (fun own =>
 (st_set (be_call u_sure_within (ba_cons (be_var (i := 1) rfl) (ba_cons be_c (ba_cons be_c ba_nil)))) (Q := fun often => [.fz code, .fz many, .fz own, .fz often, .un, .un, .un, .un]) (fun _ => rfl) (fun often =>
 (st_par (ba_cons (be_call u_sure_block (ba_cons (be_var (i := 2) rfl) (ba_cons (be_var (i := 3) rfl) ba_nil))) (ba_cons (be_tup ba_nil (by decide)) ba_nil)) (Q := fun block found => [.fz code, .fz many, .fz own, .fz often, .fz block, .fz found, .un, .un]) (fun _ _ => rfl) (fun block found =>
 (st_fold (P := fun (s : D) => [.fz code, .fz many, .fz own, .fz often, .fz block, .fz s, .any, .un]) (s0 := found) (bi_sq (be_var (i := 2) rfl)) (wS (wS (wS (wS (wS (wS (wA (wS .nil)))))))) (fun x0 s => tg_name (Q := fun bit => [.fz code, .fz many, .fz own, .fz often, .fz block, .fz s, .fz bit, .un]) (fun _ => rfl) (fun bit =>
 (st_last (st_set (be_op (be_var (i := 5) rfl) (be_cb (ba_cons (be_fz (be_lc (bi_r1 (ba_cons (be_var (i := 4) rfl) ba_nil)) rfl rfl (turn_name (fun slot => (be_if (be_bl (be_op (be_var (i := 6) rfl) be_c)) (be_op (be_var (i := 7) rfl) (be_var (i := 3) rfl)) (be_op (be_op (be_var (i := 7) rfl) (be_var (i := 3) rfl)) (be_var (i := 3) rfl)))) (fun _ => WK.refl _)))) ba_nil))) (Q := fun found_1 => [.fz code, .fz many, .fz own, .fz often, .fz block, .fz found_1, .fz bit, .un]) (fun _ => rfl) (fun found_1 =>
 (st_end (okN_nx (x := found_1) (wS (wS (wS (wS (wS (wS (wA (wS .nil)))))))))))))) x0) (fun s_1 =>
 (st_retG (be_var (i := 5) rfl) okV_rt)))))))))
    exact h)
  | [] => trivial
  | [_] => trivial
  | _ :: _ :: _ :: _ => trivial
theorem u_counted_all : ∀ xs, RefF (F_counted_all xs) (L_counted_all xs)
  | [one, other] => ru_V (p := [.fz one, .fz other, .un, .un, .un]) rfl rfl (by
    have h : ST [.fz one, .fz other, .un, .un, .un] D_counted_all okV _ := (st_asg2 (be_call u_sure_two (ba_cons (be_var (i := 0) rfl) (ba_cons (be_var (i := 1) rfl) ba_nil))) (Q := fun near far => [.fz one, .fz other, .fz near, .fz far, .un]) (fun _ _ => rfl) (fun near far =>
 (st_retG (be_cb (ba_cons (be_fz (be_lc (bi_sq (be_call u_shared_in (ba_cons (be_var (i := 2) rfl) (ba_cons (be_var (i := 3) rfl) ba_nil)))) rfl rfl (turn_name (fun own => (be_call u_counts_in (ba_cons (be_var (i := 2) rfl) (ba_cons (be_var (i := 3) rfl) (ba_cons (be_var (i := 4) rfl) ba_nil))))) (fun _ => WK.refl _)))) ba_nil)) okV_rt)))
    exact h)
  | [] => trivial
  | [_] => trivial
  | _ :: _ :: _ :: _ => trivial
theorem u_counting_bar : ∀ xs, RefF (F_counting_bar xs) (L_counting_bar xs)
  | [one, other] => ru_V (p := [.fz one, .fz other, .un, .un, .un]) rfl rfl (by
    have h : ST [.fz one, .fz other, .un, .un, .un] D_counting_bar okV _ := (st_asg2 (be_call u_sure_two (ba_cons (be_var (i := 0) rfl) (ba_cons (be_var (i := 1) rfl) ba_nil))) (Q := fun near far => [.fz one, .fz other, .fz near, .fz far, .un]) (fun _ _ => rfl) (fun near far =>
 (st_set (be_callO u_bars_in (ba_cons (be_var (i := 2) rfl) (ba_cons (be_var (i := 3) rfl) ba_nil))) (Q := fun found => [.fz one, .fz other, .fz near, .fz far, .fz found]) (fun _ => rfl) (fun found =>
 (st_if (be_bl (be_op (be_var (i := 4) rfl) (be_fz (be_lst ba_nil (by decide)))))
 st_raiseS
 (st_nxt (st_retG (be_op (be_var (i := 4) rfl) be_c) okV_rt)))))))
    exact h)
  | [] => trivial
  | [_] => trivial
  | _ :: _ :: _ :: _ => trivial
theorem u_sure_round : ∀ xs, RefF (F_sure_round xs) (L_sure_round xs)
  | [value] => ru_V (p := [.fz value]) rfl rfl (by
    have h : ST [.fz value] D_sure_round okV _ := (st_retG (be_call u_sure_within (ba_cons (be_var (i := 0) rfl) (ba_cons be_c (ba_cons be_c ba_nil)))) okV_rt)
    exact h)
  | [] => trivial
  | _ :: _ :: _ => trivial
theorem u_is_slots_in : ∀ xs, RefF (F_is_slots_in xs) (L_is_slots_in xs)
  | [length, thing] => ru_V (p := [.fz length, .fz thing, .un, .un, .un]) rfl rfl (by
    have h : ST [.fz length, .fz thing, .un, .un, .un] D_is_slots_in okV _ := (st_if (be_or (be_no (be_bl (be_un (be_var (i := 1) rfl)))) (be_no (be_bl (be_cb (ba_cons (be_fz (be_lc (bi_sq (be_var (i := 1) rfl)) rfl rfl (turn_name (fun own => (be_call u_is_within (ba_cons (be_var (i := 4) rfl) (ba_cons be_c (ba_cons (be_op (be_var (i := 0) rfl) be_c) ba_nil))))) (fun _ => WK.refl _)))) ba_nil)))))
 (st_retS be_c okV_rt)
 (st_nxt (st_retG (be_cb (ba_cons (be_fz (be_lc (bi_zp (ba_cons (be_var (i := 1) rfl) (ba_cons (be_sl (be_var (i := 1) rfl) (be_pSome be_c) be_pNo) ba_nil))) rfl rfl (turn_tup2 (fun one other => (be_op (be_var (i := 2) rfl) (be_var (i := 3) rfl))) (fun _ _ => WK.refl _)))) ba_nil)) okV_rt)))
    exact h)
  | [] => trivial
  | [_] => trivial
  | _ :: _ :: _ :: _ => trivial
theorem u_sure_slots : ∀ xs, RefF (F_sure_slots xs) (L_sure_slots xs)
  | [length, value] => ru_V (p := [.fz length, .fz value, .un]) rfl rfl (by
    have h : ST [.fz length, .fz value, .un] D_sure_slots okV _ := (st_set (be_call u_tupled (ba_cons (be_var (i := 1) rfl) ba_nil)) (Q := fun own => [.fz length, .fz value, .fz own]) (fun _ => rfl) (fun own =>
 (st_if (be_no (be_bl (be_call u_is_slots_in (ba_cons (be_var (i := 0) rfl) (ba_cons (be_var (i := 2) rfl) ba_nil)))))
 st_raiseS
 (st_nxt (st_retG (be_var (i := 2) rfl) okV_rt)))))
    exact h)
  | [] => trivial
  | [_] => trivial
  | _ :: _ :: _ :: _ => trivial
theorem u_every : ∀ xs, RefF (F_every xs) (L_every xs)
  | [row, step] => ru_V (p := [.fz row, .fz step, .un, .un, .un]) rfl rfl (by
    have h : ST [.fz row, .fz step, .un, .un, .un] D_every okV _ := (st_set (be_call u_sure_hops (ba_cons (be_var (i := 0) rfl) ba_nil)) (Q := fun own => [.fz row, .fz step, .fz own, .un, .un]) (fun _ => rfl) (fun own =>
 (st_set (be_call u_sure_within (ba_cons (be_var (i := 1) rfl) (ba_cons be_c (ba_cons be_c ba_nil)))) (Q := fun many => [.fz row, .fz step, .fz own, .fz many, .un]) (fun _ => rfl) (fun many =>
 (st_retG (be_cb (ba_cons (be_fz (be_lc (bi_r1 (ba_cons (be_op (be_cb (ba_cons (be_var (i := 2) rfl) ba_nil)) (be_call u_common (ba_cons (be_cb (ba_cons (be_var (i := 2) rfl) ba_nil)) (ba_cons (be_var (i := 3) rfl) ba_nil)))) ba_nil)) rfl rfl (turn_name (fun slot => (be_op (be_var (i := 2) rfl) (be_op (be_op (be_var (i := 4) rfl) (be_var (i := 3) rfl)) (be_cb (ba_cons (be_var (i := 2) rfl) ba_nil))))) (fun _ => WK.refl _)))) ba_nil)) okV_rt)))))
    exact h)
  | [] => trivial
  | [_] => trivial
  | _ :: _ :: _ :: _ => trivial
theorem u_sure_phases : ∀ xs, RefF (F_sure_phases xs) (L_sure_phases xs)
  | [one, other, value] => ru_V (p := [.fz one, .fz other, .fz value, .un]) rfl rfl (by
    have h : ST [.fz one, .fz other, .fz value, .un] D_sure_phases okV _ := (st_set (be_call u_tupled (ba_cons (be_var (i := 2) rfl) ba_nil)) (Q := fun own => [.fz one, .fz other, .fz value, .fz own]) (fun _ => rfl) (fun own =>
 (st_if (be_or (be_no (be_bl (be_call u_is_long (ba_cons (be_var (i := 3) rfl) (ba_cons be_c ba_nil))))) (be_or (be_no (be_bl (be_call u_is_within (ba_cons (be_op (be_var (i := 3) rfl) be_c) (ba_cons be_c (ba_cons (be_op (be_cb (ba_cons (be_var (i := 0) rfl) ba_nil)) be_c) ba_nil)))))) (be_no (be_bl (be_call u_is_within (ba_cons (be_op (be_var (i := 3) rfl) be_c) (ba_cons be_c (ba_cons (be_op (be_cb (ba_cons (be_var (i := 1) rfl) ba_nil)) be_c) ba_nil))))))))
 st_raiseS
 (st_nxt (st_retG (be_var (i := 3) rfl) okV_rt)))))
    exact h)
  | [] => trivial
  | [_] => trivial
  | [_, _] => trivial
  | _ :: _ :: _ :: _ :: _ => trivial
theorem u_first_meet : ∀ xs, RefF (F_first_meet xs) (L_first_meet xs)
  | [one, other, phases] => ru_V (p := [.fz one, .fz other, .fz phases, .un, .un]) rfl rfl (by
    have h : ST [.fz one, .fz other, .fz phases, .un, .un] D_first_meet okV _ := (st_asg2 (be_call u_sure_two (ba_cons (be_var (i := 0) rfl) (ba_cons (be_var (i := 1) rfl) ba_nil))) (Q := fun near far => [.fz one, .fz other, .fz phases, .fz near, .fz far]) (fun _ _ => rfl) (fun near far =>
 (st_retG (be_call u_time_in (ba_cons (be_var (i := 3) rfl) (ba_cons (be_var (i := 4) rfl) (ba_cons (be_call u_sure_phases (ba_cons (be_var (i := 3) rfl) (ba_cons (be_var (i := 4) rfl) (ba_cons (be_var (i := 2) rfl) ba_nil)))) (ba_cons be_c ba_nil))))) okV_rt)))
    exact h)
  | [] => trivial
  | [_] => trivial
  | [_, _] => trivial
  | _ :: _ :: _ :: _ :: _ => trivial
theorem u_first_meet_on : ∀ xs, RefF (F_first_meet_on xs) (L_first_meet_on xs)
  | [one, other, phases, channel] => ru_V (p := [.fz one, .fz other, .fz phases, .fz channel, .un, .un, .un]) rfl rfl (by
    have h : ST [.fz one, .fz other, .fz phases, .fz channel, .un, .un, .un] D_first_meet_on okV _ := (st_asg2 (be_call u_sure_two (ba_cons (be_var (i := 0) rfl) (ba_cons (be_var (i := 1) rfl) ba_nil))) (Q := fun near far => [.fz one, .fz other, .fz phases, .fz channel, .fz near, .fz far, .un]) (fun _ _ => rfl) (fun near far =>
 (st_set (be_call u_sure_phases (ba_cons (be_var (i := 4) rfl) (ba_cons (be_var (i := 5) rfl) (ba_cons (be_var (i := 2) rfl) ba_nil)))) (Q := fun own => [.fz one, .fz other, .fz phases, .fz channel, .fz near, .fz far, .fz own]) (fun _ => rfl) (fun own =>
 (st_retG (be_call u_time_in (ba_cons (be_var (i := 4) rfl) (ba_cons (be_var (i := 5) rfl) (ba_cons (be_var (i := 6) rfl) (ba_cons (be_call u_sure_channel (ba_cons (be_var (i := 3) rfl) ba_nil)) ba_nil))))) okV_rt)))))
    exact h)
  | [] => trivial
  | [_] => trivial
  | [_, _] => trivial
  | [_, _, _] => trivial
  | _ :: _ :: _ :: _ :: _ :: _ => trivial
theorem u_folded : ∀ xs, RefF (F_folded xs) (L_folded xs)
  | [row, many] => ru_V (p := [.fz row, .fz many, .un, .un, .un]) rfl rfl (by
    have h : ST [.fz row, .fz many, .un, .un, .un] D_folded okV _ := (st_set (be_call u_sure_hops (ba_cons (be_var (i := 0) rfl) ba_nil)) (Q := fun own => [.fz row, .fz many, .fz own, .un, .un]) (fun _ => rfl) (fun own =>
 (st_set (be_call u_sure_within (ba_cons (be_var (i := 1) rfl) (ba_cons be_c (ba_cons (be_op be_c be_c) ba_nil)))) (Q := fun size => [.fz row, .fz many, .fz own, .fz size, .un]) (fun _ => rfl) (fun size =>
 (st_retG (be_cb (ba_cons (be_fz (be_lc (bi_sq (be_var (i := 2) rfl)) rfl rfl (turn_name (fun channel => (be_op (be_var (i := 4) rfl) (be_var (i := 3) rfl))) (fun _ => WK.refl _)))) ba_nil)) okV_rt)))))
    exact h)
  | [] => trivial
  | [_] => trivial
  | _ :: _ :: _ :: _ => trivial
theorem u_fraction : ∀ xs, RefF (F_fraction xs) (L_fraction xs)
  | [above, below] => ru_V (p := [.fz above, .fz below, .un]) rfl rfl (by
    have h : ST [.fz above, .fz below, .un] D_fraction okV _ := (st_set (be_call u_common (ba_cons (be_var (i := 0) rfl) (ba_cons (be_var (i := 1) rfl) ba_nil))) (Q := fun own => [.fz above, .fz below, .fz own]) (fun _ => rfl) (fun own =>
 (st_set (be_if (be_bl (be_op (be_var (i := 1) rfl) be_c)) (be_var (i := 2) rfl) (be_un (be_var (i := 2) rfl))) (Q := fun own_2 => [.fz above, .fz below, .fz own_2]) (fun _ => rfl) (fun own_2 =>
 (st_retG (be_tup (ba_cons (be_op (be_var (i := 0) rfl) (be_var (i := 2) rfl)) (ba_cons (be_op (be_var (i := 1) rfl) (be_var (i := 2) rfl)) ba_nil)) (by decide)) okV_rt)))))
    exact h)
  | [] => trivial
  | [_] => trivial
  | _ :: _ :: _ :: _ => trivial
theorem u_sure_long : ∀ xs, RefF (F_sure_long xs) (L_sure_long xs)
  | [row] => ru_V (p := [.fz row]) rfl rfl (by
    have h : ST [.fz row] D_sure_long okV _ := (st_if (be_bl (be_op (be_cb (ba_cons (be_var (i := 0) rfl) ba_nil)) be_c))
 st_raiseS
 (st_nxt (st_retG (be_var (i := 0) rfl) okV_rt)))
    exact h)
  | [] => trivial
  | _ :: _ :: _ => trivial
theorem u_gone_round : ∀ xs, RefF (F_gone_round xs) (L_gone_round xs)
  | [row, often] => ru_V (p := [.fz row, .fz often, .un]) rfl rfl (by
    have h : ST [.fz row, .fz often, .un] D_gone_round okV _ := (st_set (be_call u_sure_hops (ba_cons (be_var (i := 0) rfl) ba_nil)) (Q := fun own => [.fz row, .fz often, .fz own]) (fun _ => rfl) (fun own =>
 (st_retG (be_call u_sure_long (ba_cons (be_op (be_var (i := 2) rfl) (be_call u_sure_within (ba_cons (be_var (i := 1) rfl) (ba_cons be_c (ba_cons be_c ba_nil))))) ba_nil)) okV_rt)))
    exact h)
  | [] => trivial
  | [_] => trivial
  | _ :: _ :: _ :: _ => trivial
theorem u_size_in : ∀ xs, RefF (F_size_in xs) (L_size_in xs)
  | [length] => ru_V (p := [.fz length, .un]) rfl rfl (by
    have h : ST [.fz length, .un] D_size_in okV _ := (st_set be_c (Q := fun found => [.fz length, .fz found]) (fun _ => rfl) (fun found =>
 (st_while (P := fun (s : D) => [.fz length, .fz s]) (s0 := found) (wS (wS .nil)) (fun s => st_if0 (be_bl (be_op (be_op (be_op (be_var (i := 1) rfl) (be_op (be_var (i := 1) rfl) be_c)) be_c) (be_var (i := 0) rfl)))
 (st_last (st_set (be_op (be_var (i := 1) rfl) be_c) (Q := fun found_1 => [.fz length, .fz found_1]) (fun _ => rfl) (fun found_1 =>
 (st_end (okL_nx (x := found_1) (wS (wS .nil)))))))
 (st_bk (okL_bk (x := s) (wS (wS .nil))))) (fun s_1 =>
 (st_retG (be_var (i := 1) rfl) okV_rt)))))
    exact h)
  | [] => trivial
  | _ :: _ :: _ => trivial
theorem u_is_barred_in : ∀ xs, RefF (F_is_barred_in xs) (L_is_barred_in xs)
  | [channels, length] => ru_V (p := [.fz channels, .fz length]) rfl rfl (by
    have h : ST [.fz channels, .fz length] D_is_barred_in okV _ := (st_retG (be_op (be_op (be_var (i := 0) rfl) (be_call u_size_in (ba_cons (be_var (i := 1) rfl) ba_nil))) (be_var (i := 1) rfl)) okV_rt)
    exact h)
  | [] => trivial
  | [_] => trivial
  | _ :: _ :: _ :: _ => trivial
theorem u_meets_at : ∀ xs, RefF (F_meets_at xs) (L_meets_at xs)
  | [one, other, gap, slot, channel] => ru_V (p := [.fz one, .fz other, .fz gap, .fz slot, .fz channel, .un]) rfl rfl (by
    have h : ST [.fz one, .fz other, .fz gap, .fz slot, .fz channel, .un] D_meets_at okV _ := (st_if (be_no (be_bl (be_call u_is_within (ba_cons (be_var (i := 3) rfl) (ba_cons be_c (ba_cons (be_op (be_call u_together_in (ba_cons (be_var (i := 0) rfl) (ba_cons (be_var (i := 1) rfl) ba_nil))) be_c) ba_nil))))))
 (st_retS be_c okV_rt)
 (st_nxt (st_set (be_op (be_var (i := 0) rfl) (be_op (be_op (be_var (i := 2) rfl) (be_var (i := 3) rfl)) (be_cb (ba_cons (be_var (i := 0) rfl) ba_nil)))) (Q := fun own => [.fz one, .fz other, .fz gap, .fz slot, .fz channel, .fz own]) (fun _ => rfl) (fun own =>
 (st_retG (be_and (be_op (be_var (i := 5) rfl) (be_op (be_var (i := 1) rfl) (be_op (be_var (i := 3) rfl) (be_cb (ba_cons (be_var (i := 1) rfl) ba_nil))))) (be_op (be_var (i := 4) rfl) (be_tup (ba_cons be_c (ba_cons (be_var (i := 5) rfl) ba_nil)) (by decide)))) okV_rt)))))
    exact h)
  | [] => trivial
  | [_] => trivial
  | [_, _] => trivial
  | [_, _, _] => trivial
  | [_, _, _, _] => trivial
  | _ :: _ :: _ :: _ :: _ :: _ :: _ => trivial
theorem t_is_paper_against_5 (thing : D) (one : D) (other : D) : ST [.any, .fz thing, .any, .fz one, .fz other, .any, .no, .no, .any] D_is_paper_against_5 okV (U_is_paper_against_5 thing one other) := by
  have h : ST [.any, .fz thing, .any, .fz one, .fz other, .any, .no, .no, .any] D_is_paper_against_5 okV _ := (st_retG (be_cb (ba_cons (be_fz (be_lc (bi_en (ba_cons (be_var (i := 1) rfl) ba_nil)) rfl rfl (turn_tup2 (fun shift own => (be_op (be_op (be_call u_turned_code (ba_cons (be_var (i := 3) rfl) (ba_cons (be_var (i := 6) rfl) ba_nil))) (be_var (i := 7) rfl)) (be_op (be_var (i := 4) rfl) (be_var (i := 7) rfl)))) (fun _ _ => WK.refl _)))) ba_nil)) okV_rt)
  exact h
theorem t_is_paper_against_4 (thing : D) (one : D) (other : D) : ST [.any, .fz thing, .any, .fz one, .fz other, .any, .no, .no, .any] D_is_paper_against_4 okV (U_is_paper_against_4 thing one other) := by
  have h : ST [.any, .fz thing, .any, .fz one, .fz other, .any, .no, .no, .any] D_is_paper_against_4 okV _ := (st_if (be_or (be_no (be_bl (be_call u_is_long (ba_cons (be_var (i := 1) rfl) (ba_cons (be_cb (ba_cons (be_var (i := 3) rfl) ba_nil)) ba_nil))))) (be_no (be_bl (be_cb (ba_cons (be_fz (be_lc (bi_sq (be_var (i := 1) rfl)) rfl rfl (turn_name (fun own => (be_call u_is_within (ba_cons (be_var (i := 7) rfl) (ba_cons be_c (ba_cons (be_op (be_cb (ba_cons (be_var (i := 3) rfl) ba_nil)) be_c) ba_nil))))) (fun _ => WK.refl _)))) ba_nil)))))
 (st_retS be_c okV_rt)
 (st_nxt (st_weak (wS (wS (wS (wS (wS (wS (wS (wS (wS .nil))))))))) (t_is_paper_against_5 thing one other))))
  exact h
theorem t_is_paper_against_3 (thing : D) (word : D) (one : D) (other : D) : ST [.any, .fz thing, .fz word, .fz one, .fz other, .any, .no, .no, .any] D_is_paper_against_3 okV (U_is_paper_against_3 thing word one other) := by
  have h : ST [.any, .fz thing, .fz word, .fz one, .fz other, .any, .no, .no, .any] D_is_paper_against_3 okV _ := (st_if (be_bl (be_op (be_var (i := 2) rfl) be_c))
 (st_retS (be_and (be_call u_is_within (ba_cons (be_var (i := 1) rfl) (ba_cons be_c (ba_cons be_c ba_nil)))) (be_op (be_op (be_var (i := 3) rfl) (be_op (be_var (i := 1) rfl) (be_cb (ba_cons (be_var (i := 3) rfl) ba_nil)))) (be_op (be_var (i := 4) rfl) (be_op (be_var (i := 1) rfl) (be_cb (ba_cons (be_var (i := 4) rfl) ba_nil)))))) okV_rt)
 (st_nxt (st_weak (wS (wS (wA (wS (wS (wS (wS (wS (wS .nil))))))))) (t_is_paper_against_4 thing one other))))
  exact h
theorem t_is_paper_against_2 (thing : D) (word : D) (one : D) (other : D) : ST [.any, .fz thing, .fz word, .fz one, .fz other, .any, .no, .no, .no] D_is_paper_against_2 okV (U_is_paper_against_2 thing word one other) := by
  have h : ST [.any, .fz thing, .fz word, .fz one, .fz other, .any, .no, .no, .no] D_is_paper_against_2 okV _ := (st_if (be_bl (be_op (be_var (i := 2) rfl) be_c))
 (st_seq (st_if (be_no (be_bl (be_call u_is_long (ba_cons (be_var (i := 1) rfl) (ba_cons (be_call u_gaps_in (ba_cons (be_var (i := 3) rfl) (ba_cons (be_var (i := 4) rfl) ba_nil))) ba_nil)))))
 (st_retS be_c okV_rt)
 (st_nxt (st_retS (be_cb (ba_cons (be_fz (be_lc (bi_en (ba_cons (be_var (i := 1) rfl) ba_nil)) rfl rfl (turn_tup2 (fun gap own => (be_call u_meets_at (ba_cons (be_var (i := 3) rfl) (ba_cons (be_var (i := 4) rfl) (ba_cons (be_var (i := 8) rfl) (ba_cons (be_var (i := 7) rfl) (ba_cons be_c ba_nil))))))) (fun _ _ => WK.refl _)))) ba_nil)) okV_rt))))
 (st_nxt (st_weak (wS (wS (wS (wS (wS (wS (wS (wS (wA .nil))))))))) (t_is_paper_against_3 thing word one other))))
  exact h
theorem t_is_paper_against_1 (thing : D) (word : D) (one : D) (other : D) : ST [.any, .fz thing, .fz word, .fz one, .fz other, .any, .no, .no, .no] D_is_paper_against_1 okV (U_is_paper_against_1 thing word one other) := by
  have h : ST [.any, .fz thing, .fz word, .fz one, .fz other, .any, .no, .no, .no] D_is_paper_against_1 okV _ := (st_if (be_bl (be_op (be_var (i := 2) rfl) be_c))
 (st_seq (st_if (be_an (be_bl (be_un (be_var (i := 1) rfl))) (be_bl (be_op (be_var (i := 1) rfl) (be_tup (ba_cons be_c ba_nil) (by decide)))))
 (st_retS (be_op (be_call u_shared_in (ba_cons (be_var (i := 3) rfl) (ba_cons (be_var (i := 4) rfl) ba_nil))) (be_tup ba_nil (by decide))) okV_rt)
 (st_nxt (st_seq (st_if (be_or (be_no (be_bl (be_call u_is_long (ba_cons (be_var (i := 1) rfl) (ba_cons be_c ba_nil))))) (be_or (be_no (be_bl (be_call u_is_number (ba_cons (be_op (be_var (i := 1) rfl) be_c) ba_nil)))) (be_bl (be_op (be_op (be_var (i := 1) rfl) be_c) (be_call u_shared_in (ba_cons (be_var (i := 3) rfl) (ba_cons (be_var (i := 4) rfl) ba_nil)))))))
 (st_retS be_c okV_rt)
 (st_nxt (st_retS (be_and (be_call u_are_phases (ba_cons (be_var (i := 3) rfl) (ba_cons (be_var (i := 4) rfl) (ba_cons (be_op (be_var (i := 1) rfl) be_c) ba_nil)))) (be_op (be_call u_time_in (ba_cons (be_var (i := 3) rfl) (ba_cons (be_var (i := 4) rfl) (ba_cons (be_op (be_var (i := 1) rfl) be_c) (ba_cons (be_op (be_var (i := 1) rfl) be_c) ba_nil))))) be_c)) okV_rt)))))))
 (st_nxt (st_weak (wS (wS (wS (wS (wS (wS (wS (wS (wS .nil))))))))) (t_is_paper_against_2 thing word one other))))
  exact h
theorem u_is_paper_against : ∀ xs, RefF (F_is_paper_against xs) (L_is_paper_against xs)
  | [claim, thing] => ru_V (p := [.fz claim, .fz thing, .un, .un, .un, .un, .un, .un, .un]) rfl rfl (by
    have h : ST [.fz claim, .fz thing, .un, .un, .un, .un, .un, .un, .un] D_is_paper_against okV _ := (st_asg3 (be_tup (ba_cons (be_op (be_var (i := 0) rfl) be_c) (ba_cons (be_op (be_var (i := 0) rfl) be_c) (ba_cons (be_op (be_var (i := 0) rfl) be_c) ba_nil))) (by decide)) (Q := fun word one other => [.fz claim, .fz thing, .fz word, .fz one, .fz other, .un, .un, .un, .un]) (fun _ _ _ => rfl) (fun word one other =>
 (st_if (be_bl (be_op (be_var (i := 2) rfl) be_c))
 (st_seq (st_if (be_no (be_bl (be_call u_are_phases (ba_cons (be_var (i := 3) rfl) (ba_cons (be_var (i := 4) rfl) (ba_cons (be_var (i := 1) rfl) ba_nil))))))
 (st_retS be_c okV_rt)
 (st_nxt (st_seq (st_set (be_call u_time_in (ba_cons (be_var (i := 3) rfl) (ba_cons (be_var (i := 4) rfl) (ba_cons (be_var (i := 1) rfl) (ba_cons be_c ba_nil))))) (Q := fun found => [.fz claim, .fz thing, .fz word, .fz one, .fz other, .fz found, .un, .un, .un]) (fun _ => rfl) (fun found =>
 (st_retS (be_orv (be_op (be_var (i := 5) rfl) be_c) (be_op (be_var (i := 5) rfl) (be_op (be_var (i := 0) rfl) be_c))) okV_rt)))))))
 (st_nxt (st_weak (wA (wS (wS (wS (wS (wA (wU (wU (wU .nil))))))))) (t_is_paper_against_1 thing word one other))))))
    exact h)
  | [] => trivial
  | [_] => trivial
  | _ :: _ :: _ :: _ => trivial
theorem u_is_close_row : ∀ xs, RefF (F_is_close_row xs) (L_is_close_row xs)
  | [one, other, gap, time, thing] => ru_V (p := [.fz one, .fz other, .fz gap, .fz time, .fz thing, .un, .un, .un, .un]) rfl rfl (by
    have h : ST [.fz one, .fz other, .fz gap, .fz time, .fz thing, .un, .un, .un, .un] D_is_close_row okV _ := (st_if (be_or (be_no (be_bl (be_un (be_var (i := 4) rfl)))) (be_bl (be_op (be_var (i := 4) rfl) (be_tup ba_nil (by decide)))))
 (st_retS be_c okV_rt)
 (st_nxt (st_if (be_no (be_bl (be_cb (ba_cons (be_fz (be_lc (bi_sq (be_var (i := 4) rfl)) rfl rfl (turn_name (fun own => (be_call u_meets_at (ba_cons (be_var (i := 0) rfl) (ba_cons (be_var (i := 1) rfl) (ba_cons (be_var (i := 2) rfl) (ba_cons (be_var (i := 8) rfl) (ba_cons be_c ba_nil))))))) (fun _ => WK.refl _)))) ba_nil))))
 (st_retS be_c okV_rt)
 (st_nxt (st_if (be_no (be_bl (be_cb (ba_cons (be_fz (be_lc (bi_zp (ba_cons (be_var (i := 4) rfl) (ba_cons (be_sl (be_var (i := 4) rfl) (be_pSome be_c) be_pNo) ba_nil))) rfl rfl (turn_tup2 (fun near far => (be_op (be_var (i := 6) rfl) (be_var (i := 7) rfl))) (fun _ _ => WK.refl _)))) ba_nil))))
 (st_retS be_c okV_rt)
 (st_nxt (st_set (be_op (be_sl (be_var (i := 4) rfl) (be_pSome be_c) be_pNo) (be_tup (ba_cons (be_op (be_op (be_var (i := 4) rfl) be_c) (be_call u_together_in (ba_cons (be_var (i := 0) rfl) (ba_cons (be_var (i := 1) rfl) ba_nil)))) ba_nil) (by decide))) (Q := fun ends => [.fz one, .fz other, .fz gap, .fz time, .fz thing, .fz ends, .un, .un, .un]) (fun _ => rfl) (fun ends =>
 (st_retG (be_cb (ba_cons (be_fz (be_lc (bi_zp (ba_cons (be_var (i := 4) rfl) (ba_cons (be_var (i := 5) rfl) ba_nil))) rfl rfl (turn_tup2 (fun near_1 far_1 => (be_op (be_op (be_var (i := 7) rfl) (be_var (i := 6) rfl)) (be_var (i := 3) rfl))) (fun _ _ => WK.refl _)))) ba_nil)) okV_rt)))))))))
    exact h)
  | [] => trivial
  | [_] => trivial
  | [_, _] => trivial
  | [_, _, _] => trivial
  | [_, _, _, _] => trivial
  | _ :: _ :: _ :: _ :: _ :: _ :: _ => trivial
theorem u_is_code : ∀ xs, RefF (F_is_code xs) (L_is_code xs)
  | [thing] => ru_V (p := [.fz thing]) rfl rfl (by
    have h : ST [.fz thing] D_is_code okV _ := (st_retG (be_call u_is_code_in (ba_cons (be_var (i := 0) rfl) ba_nil)) okV_rt)
    exact h)
  | [] => trivial
  | _ :: _ :: _ => trivial
theorem u_is_counting_bar : ∀ xs, RefF (F_is_counting_bar xs) (L_is_counting_bar xs)
  | [one, other, thing] => ru_V (p := [.fz one, .fz other, .fz thing, .un, .un]) rfl rfl (by
    have h : ST [.fz one, .fz other, .fz thing, .un, .un] D_is_counting_bar okV _ := (st_asg2 (be_call u_sure_two (ba_cons (be_var (i := 0) rfl) (ba_cons (be_var (i := 1) rfl) ba_nil))) (Q := fun near far => [.fz one, .fz other, .fz thing, .fz near, .fz far]) (fun _ _ => rfl) (fun near far =>
 (st_retG (be_and (be_call u_is_number (ba_cons (be_var (i := 2) rfl) ba_nil)) (be_op (be_var (i := 2) rfl) (be_callO u_bars_in (ba_cons (be_var (i := 3) rfl) (ba_cons (be_var (i := 4) rfl) ba_nil))))) okV_rt)))
    exact h)
  | [] => trivial
  | [_] => trivial
  | [_, _] => trivial
  | _ :: _ :: _ :: _ :: _ => trivial
theorem u_is_even : ∀ xs, RefF (F_is_even xs) (L_is_even xs)
  | [row] => ru_V (p := [.fz row, .un, .un, .un]) rfl rfl (by
    have h : ST [.fz row, .un, .un, .un] D_is_even okV _ := (st_set (be_call u_sure_hops (ba_cons (be_var (i := 0) rfl) ba_nil)) (Q := fun own => [.fz row, .fz own, .un, .un]) (fun _ => rfl) (fun own =>
 (st_set (be_fz (be_lc (bi_sq (be_call u_channels_in (ba_cons (be_var (i := 1) rfl) ba_nil))) rfl rfl (turn_name (fun channel => (be_cb (ba_cons (be_call u_slots_in (ba_cons (be_var (i := 1) rfl) (ba_cons (be_var (i := 3) rfl) ba_nil))) ba_nil))) (fun _ => WK.refl _)))) (Q := fun counts => [.fz row, .fz own, .fz counts, .un]) (fun _ => rfl) (fun counts =>
 (st_retG (be_op (be_cb (ba_cons (be_var (i := 2) rfl) ba_nil)) (be_cb (ba_cons (be_var (i := 2) rfl) ba_nil))) okV_rt)))))
    exact h)
  | [] => trivial
  | _ :: _ :: _ => trivial
theorem u_is_long_row : ∀ xs, RefF (F_is_long_row xs) (L_is_long_row xs)
  | [thing] => ru_V (p := [.fz thing]) rfl rfl (by
    have h : ST [.fz thing] D_is_long_row okV _ := (st_retG (be_and (be_call u_is_row_in (ba_cons (be_var (i := 0) rfl) ba_nil)) (be_op (be_cb (ba_cons (be_var (i := 0) rfl) ba_nil)) be_c)) okV_rt)
    exact h)
  | [] => trivial
  | _ :: _ :: _ => trivial
theorem u_is_lot_in : ∀ xs, RefF (F_is_lot_in xs) (L_is_lot_in xs)
  | [thing] => ru_V (p := [.fz thing, .un, .un, .un, .un]) rfl rfl (by
    have h : ST [.fz thing, .un, .un, .un, .un] D_is_lot_in okV _ := (st_if (be_or (be_no (be_bl (be_call u_is_long (ba_cons (be_var (i := 0) rfl) (ba_cons be_c ba_nil))))) (be_or (be_no (be_bl (be_call u_is_within (ba_cons (be_op (be_var (i := 0) rfl) be_c) (ba_cons be_c (ba_cons be_c ba_nil)))))) (be_no (be_bl (be_call u_is_prime_in (ba_cons (be_op (be_var (i := 0) rfl) be_c) ba_nil))))))
 (st_retS be_c okV_rt)
 (st_nxt (st_set (be_op (be_var (i := 0) rfl) be_c) (Q := fun goods => [.fz thing, .fz goods, .un, .un, .un]) (fun _ => rfl) (fun goods =>
 (st_if (be_or (be_no (be_bl (be_un (be_var (i := 1) rfl)))) (be_or (be_bl (be_op (be_var (i := 1) rfl) (be_tup ba_nil (by decide)))) (be_bl (be_op (be_cb (ba_cons (be_var (i := 1) rfl) ba_nil)) (be_op (be_var (i := 0) rfl) be_c)))))
 (st_retS be_c okV_rt)
 (st_nxt (st_if (be_no (be_bl (be_cb (ba_cons (be_fz (be_lc (bi_sq (be_var (i := 1) rfl)) rfl rfl (turn_name (fun own => (be_call u_is_within (ba_cons (be_var (i := 4) rfl) (ba_cons be_c (ba_cons be_c ba_nil))))) (fun _ => WK.refl _)))) ba_nil))))
 (st_retS be_c okV_rt)
 (st_nxt (st_retG (be_cb (ba_cons (be_fz (be_lc (bi_zp (ba_cons (be_var (i := 1) rfl) (ba_cons (be_sl (be_var (i := 1) rfl) (be_pSome be_c) be_pNo) ba_nil))) rfl rfl (turn_tup2 (fun one other => (be_op (be_var (i := 2) rfl) (be_var (i := 3) rfl))) (fun _ _ => WK.refl _)))) ba_nil)) okV_rt)))))))))
    exact h)
  | [] => trivial
  | _ :: _ :: _ => trivial
theorem u_is_piece : ∀ xs, RefF (F_is_piece xs) (L_is_piece xs)
  | [thing] => ru_V (p := [.fz thing, .un]) rfl rfl (by
    have h : ST [.fz thing, .un] D_is_piece okV _ := (st_retG (be_and (be_un (be_var (i := 0) rfl)) (be_and (be_op (be_var (i := 0) rfl) be_c) (be_cb (ba_cons (be_fz (be_lc (bi_sq (be_var (i := 0) rfl)) rfl rfl (turn_name (fun sign => (be_and (be_chain be_c (be_var (i := 1) rfl) be_c) (be_op (be_var (i := 1) rfl) be_c))) (fun _ => WK.refl _)))) ba_nil)))) okV_rt)
    exact h)
  | [] => trivial
  | _ :: _ :: _ => trivial
theorem u_sure_many : ∀ xs, RefF (F_sure_many xs) (L_sure_many xs)
  | [value, most] => ru_V (p := [.fz value, .fz most]) rfl rfl (by
    have h : ST [.fz value, .fz most] D_sure_many okV _ := (st_retG (be_call u_sure_within (ba_cons (be_var (i := 0) rfl) (ba_cons be_c (ba_cons (be_var (i := 1) rfl) ba_nil)))) okV_rt)
    exact h)
  | [] => trivial
  | [_] => trivial
  | _ :: _ :: _ :: _ => trivial
theorem u_is_small_row : ∀ xs, RefF (F_is_small_row xs) (L_is_small_row xs)
  | [thing] => ru_V (p := [.fz thing]) rfl rfl (by
    have h : ST [.fz thing] D_is_small_row okV _ := (st_retG (be_and (be_call u_is_row_in (ba_cons (be_var (i := 0) rfl) ba_nil)) (be_op (be_cb (ba_cons (be_var (i := 0) rfl) ba_nil)) be_c)) okV_rt)
    exact h)
  | [] => trivial
  | _ :: _ :: _ => trivial
theorem u_jump_bound : ∀ xs, RefF (F_jump_bound xs) (L_jump_bound xs)
  | [prime] => ru_V (p := [.fz prime]) rfl rfl (by
    have h : ST [.fz prime] D_jump_bound okV _ := (st_retG (be_op be_c (be_call u_sure_prime (ba_cons (be_var (i := 0) rfl) ba_nil))) okV_rt)
    exact h)
  | [] => trivial
  | _ :: _ :: _ => trivial
theorem u_jump_row : ∀ xs, RefF (F_jump_row xs) (L_jump_row xs)
  | [prime, clock, stay] => ru_V (p := [.fz prime, .fz clock, .fz stay, .un, .un, .un]) rfl rfl (by
    have h : ST [.fz prime, .fz clock, .fz stay, .un, .un, .un] D_jump_row okV _ := (st_set (be_call u_sure_prime (ba_cons (be_var (i := 0) rfl) ba_nil)) (Q := fun many => [.fz prime, .fz clock, .fz stay, .fz many, .un, .un]) (fun _ => rfl) (fun many =>
 (st_set (be_call u_sure_clock (ba_cons (be_var (i := 3) rfl) (ba_cons (be_var (i := 1) rfl) ba_nil))) (Q := fun own => [.fz prime, .fz clock, .fz stay, .fz many, .fz own, .un]) (fun _ => rfl) (fun own =>
 (st_set (be_call u_sure_within (ba_cons (be_var (i := 2) rfl) (ba_cons be_c (ba_cons (be_op (be_var (i := 3) rfl) be_c) ba_nil)))) (Q := fun rest => [.fz prime, .fz clock, .fz stay, .fz many, .fz own, .fz rest]) (fun _ => rfl) (fun rest =>
 (st_if (be_bl (be_op (be_op (be_var (i := 4) rfl) be_c) be_c))
 st_raiseS
 (st_nxt (st_retG (be_op (be_op (be_call u_clock_in (ba_cons (be_var (i := 3) rfl) (ba_cons (be_op (be_var (i := 4) rfl) be_c) (ba_cons (be_op (be_var (i := 4) rfl) be_c) ba_nil)))) be_c) (be_op (be_tup (ba_cons (be_var (i := 5) rfl) ba_nil) (by decide)) (be_var (i := 3) rfl))) okV_rt)))))))))
    exact h)
  | [] => trivial
  | [_] => trivial
  | [_, _] => trivial
  | _ :: _ :: _ :: _ :: _ => trivial
theorem u_jump_for : ∀ xs, RefF (F_jump_for xs) (L_jump_for xs)
  | [channels, rate] => ru_V (p := [.fz channels, .fz rate, .un, .un, .un, .un]) rfl rfl (by
    have h : ST [.fz channels, .fz rate, .un, .un, .un, .un] D_jump_for okV _ := (st_set (be_call u_sure_within (ba_cons (be_var (i := 0) rfl) (ba_cons be_c (ba_cons (be_op be_c be_c) ba_nil)))) (Q := fun many => [.fz channels, .fz rate, .fz many, .un, .un, .un]) (fun _ => rfl) (fun many =>
 (st_set (be_call u_sure_within (ba_cons (be_var (i := 1) rfl) (ba_cons be_c (ba_cons be_c ba_nil)))) (Q := fun often => [.fz channels, .fz rate, .fz many, .fz often, .un, .un]) (fun _ => rfl) (fun often =>
 (st_set (be_op (be_fz (be_lcF (bi_r2 (ba_cons be_c (ba_cons (be_op be_c be_c) ba_nil))) rfl rfl (turnF_name (fun own => (be_an (be_bl (be_op (be_var (i := 5) rfl) (be_var (i := 2) rfl))) (be_bl (be_call u_is_prime_in (ba_cons (be_var (i := 5) rfl) ba_nil))))) (fun own => (be_var (i := 5) rfl)) (fun _ => WK.refl _) (fun _ => WK.refl _)))) be_c) (Q := fun prime => [.fz channels, .fz rate, .fz many, .fz often, .fz prime, .un]) (fun _ => rfl) (fun prime =>
 (st_if (be_bl (be_op (be_var (i := 3) rfl) (be_var (i := 4) rfl)))
 st_raiseS
 (st_nxt (st_retG (be_call u_folded (ba_cons (be_call u_jump_row (ba_cons (be_var (i := 4) rfl) (ba_cons (be_tup (ba_cons (be_var (i := 3) rfl) (ba_cons be_c ba_nil)) (by decide)) (ba_cons (be_var (i := 3) rfl) ba_nil)))) (ba_cons (be_var (i := 2) rfl) ba_nil))) okV_rt)))))))))
    exact h)
  | [] => trivial
  | [_] => trivial
  | _ :: _ :: _ :: _ => trivial
theorem u_least_parts : ∀ xs, RefF (F_least_parts xs) (L_least_parts xs)
  | [many] => ru_V (p := [.fz many, .un]) rfl rfl (by
    have h : ST [.fz many, .un] D_least_parts okV _ := (st_set (be_call u_sure_within (ba_cons (be_var (i := 0) rfl) (ba_cons be_c (ba_cons be_c ba_nil)))) (Q := fun own => [.fz many, .fz own]) (fun _ => rfl) (fun own =>
 (st_retG (be_op (be_var (i := 1) rfl) (be_var (i := 1) rfl)) okV_rt)))
    exact h)
  | [] => trivial
  | _ :: _ :: _ => trivial
theorem u_least_round : ∀ xs, RefF (F_least_round xs) (L_least_round xs)
  | [row] => ru_V (p := [.fz row]) rfl rfl (by
    have h : ST [.fz row] D_least_round okV _ := (st_retG (be_call u_least_in (ba_cons (be_call u_sure_hops (ba_cons (be_var (i := 0) rfl) ba_nil)) ba_nil)) okV_rt)
    exact h)
  | [] => trivial
  | _ :: _ :: _ => trivial
theorem u_least_turned : ∀ xs, RefF (F_least_turned xs) (L_least_turned xs)
  | [row] => ru_V (p := [.fz row, .un, .un]) rfl rfl (by
    have h : ST [.fz row, .un, .un] D_least_turned okV _ := (st_set (be_call u_least_in (ba_cons (be_call u_sure_hops (ba_cons (be_var (i := 0) rfl) ba_nil)) ba_nil)) (Q := fun own => [.fz row, .fz own, .un]) (fun _ => rfl) (fun own =>
 (st_retG (be_cb (ba_cons (be_fz (be_lc (bi_r1 (ba_cons (be_cb (ba_cons (be_var (i := 1) rfl) ba_nil)) ba_nil)) rfl rfl (turn_name (fun slots => (be_call u_moved_in (ba_cons (be_var (i := 1) rfl) (ba_cons (be_var (i := 2) rfl) ba_nil)))) (fun _ => WK.refl _)))) ba_nil)) okV_rt)))
    exact h)
  | [] => trivial
  | _ :: _ :: _ => trivial
theorem u_load : ∀ xs, RefF (F_load xs) (L_load xs)
  | [row, channel] => ru_V (p := [.fz row, .fz channel, .un]) rfl rfl (by
    have h : ST [.fz row, .fz channel, .un] D_load okV _ := (st_set (be_call u_sure_hops (ba_cons (be_var (i := 0) rfl) ba_nil)) (Q := fun own => [.fz row, .fz channel, .fz own]) (fun _ => rfl) (fun own =>
 (st_retG (be_call u_fraction (ba_cons (be_cb (ba_cons (be_call u_slots_in (ba_cons (be_var (i := 2) rfl) (ba_cons (be_call u_sure_channel (ba_cons (be_var (i := 1) rfl) ba_nil)) ba_nil))) ba_nil)) (ba_cons (be_cb (ba_cons (be_var (i := 2) rfl) ba_nil)) ba_nil))) okV_rt)))
    exact h)
  | [] => trivial
  | [_] => trivial
  | _ :: _ :: _ :: _ => trivial
theorem u_loads_apart : ∀ xs, RefF (F_loads_apart xs) (L_loads_apart xs)
  | [row] => ru_V (p := [.fz row, .un, .un, .un]) rfl rfl (by
    have h : ST [.fz row, .un, .un, .un] D_loads_apart okV _ := (st_set (be_call u_sure_hops (ba_cons (be_var (i := 0) rfl) ba_nil)) (Q := fun own => [.fz row, .fz own, .un, .un]) (fun _ => rfl) (fun own =>
 (st_set (be_fz (be_lc (bi_sq (be_call u_channels_in (ba_cons (be_var (i := 1) rfl) ba_nil))) rfl rfl (turn_name (fun channel => (be_cb (ba_cons (be_call u_slots_in (ba_cons (be_var (i := 1) rfl) (ba_cons (be_var (i := 3) rfl) ba_nil))) ba_nil))) (fun _ => WK.refl _)))) (Q := fun counts => [.fz row, .fz own, .fz counts, .un]) (fun _ => rfl) (fun counts =>
 (st_retG (be_call u_fraction (ba_cons (be_op (be_cb (ba_cons (be_var (i := 2) rfl) ba_nil)) (be_cb (ba_cons (be_var (i := 2) rfl) ba_nil))) (ba_cons (be_cb (ba_cons (be_var (i := 1) rfl) ba_nil)) ba_nil))) okV_rt)))))
    exact h)
  | [] => trivial
  | _ :: _ :: _ => trivial
theorem u_longest_stay : ∀ xs, RefF (F_longest_stay xs) (L_longest_stay xs)
  | [row] => ru_V (p := [.fz row, .un, .un, .un, .un, .un]) rfl rfl (by
    have h : ST [.fz row, .un, .un, .un, .un, .un] D_longest_stay okV _ := (st_set (be_call u_sure_hops (ba_cons (be_var (i := 0) rfl) ba_nil)) (Q := fun own => [.fz row, .fz own, .un, .un, .un, .un]) (fun _ => rfl) (fun own =>
 (st_if (be_bl (be_op (be_cb (ba_cons (be_var (i := 1) rfl) ba_nil)) (be_cb (ba_cons (be_var (i := 1) rfl) ba_nil))))
 (st_retS be_c okV_rt)
 (st_nxt (st_asg2 (be_tup (ba_cons be_c (ba_cons be_c ba_nil)) (by decide)) (Q := fun found here => [.fz row, .fz own, .fz found, .fz here, .un, .un]) (fun _ _ => rfl) (fun found here =>
 (st_set (be_op (be_var (i := 1) rfl) (be_var (i := 1) rfl)) (Q := fun twice => [.fz row, .fz own, .fz found, .fz here, .fz twice, .un]) (fun _ => rfl) (fun twice =>
 (st_fold (P := fun (s : D × D) => [.fz row, .fz own, .fz s.1, .fz s.2, .fz twice, .any]) (s0 := (found, here)) (bi_r2 (ba_cons be_c (ba_cons (be_cb (ba_cons (be_var (i := 4) rfl) ba_nil)) ba_nil))) (wS (wS (wS (wS (wS (wA .nil)))))) (fun x0 s => tg_name (Q := fun place => [.fz row, .fz own, .fz s.1, .fz s.2, .fz twice, .fz place]) (fun _ => rfl) (fun place =>
 (st_set (be_if (be_bl (be_op (be_op (be_var (i := 4) rfl) (be_var (i := 5) rfl)) (be_op (be_var (i := 4) rfl) (be_op (be_var (i := 5) rfl) be_c)))) (be_op (be_var (i := 3) rfl) be_c) be_c) (Q := fun here_1 => [.fz row, .fz own, .fz s.1, .fz here_1, .fz twice, .fz place]) (fun _ => rfl) (fun here_1 =>
 (st_last (st_set (be_cb (ba_cons (be_var (i := 2) rfl) (ba_cons (be_var (i := 3) rfl) ba_nil))) (Q := fun found_1 => [.fz row, .fz own, .fz found_1, .fz here_1, .fz twice, .fz place]) (fun _ => rfl) (fun found_1 =>
 (st_end (okN_nx (x := (found_1, here_1)) (wS (wS (wS (wS (wS (wA .nil)))))))))))))) x0) (fun s_1 =>
 (st_retG (be_var (i := 2) rfl) okV_rt)))))))))))
    exact h)
  | [] => trivial
  | _ :: _ :: _ => trivial
theorem u_lot_in : ∀ xs, RefF (F_lot_in xs) (L_lot_in xs)
  | [lot] => ru_V (p := [.fz lot, .un]) rfl rfl (by
    have h : ST [.fz lot, .un] D_lot_in okV _ := (st_retG (be_cb (ba_cons (be_fz (be_lc (bi_r1 (ba_cons (be_op (be_var (i := 0) rfl) be_c) ba_nil)) rfl rfl (turn_name (fun slot => (be_op (be_op (be_var (i := 0) rfl) be_c) (be_op (be_var (i := 1) rfl) (be_cb (ba_cons (be_op (be_var (i := 0) rfl) be_c) ba_nil))))) (fun _ => WK.refl _)))) ba_nil)) okV_rt)
    exact h)
  | [] => trivial
  | _ :: _ :: _ => trivial
theorem u_sure_lot : ∀ xs, RefF (F_sure_lot xs) (L_sure_lot xs)
  | [value] => ru_V (p := [.fz value, .un]) rfl rfl (by
    have h : ST [.fz value, .un] D_sure_lot okV _ := (st_set (be_call u_tupled (ba_cons (be_var (i := 0) rfl) ba_nil)) (Q := fun own => [.fz value, .fz own]) (fun _ => rfl) (fun own =>
 (st_if (be_no (be_bl (be_call u_is_lot_in (ba_cons (be_var (i := 1) rfl) ba_nil))))
 st_raiseS
 (st_nxt (st_retG (be_var (i := 1) rfl) okV_rt)))))
    exact h)
  | [] => trivial
  | _ :: _ :: _ => trivial
theorem u_lot_row : ∀ xs, RefF (F_lot_row xs) (L_lot_row xs)
  | [lot] => ru_V (p := [.fz lot]) rfl rfl (by
    have h : ST [.fz lot] D_lot_row okV _ := (st_retG (be_call u_lot_in (ba_cons (be_call u_sure_lot (ba_cons (be_var (i := 0) rfl) ba_nil)) ba_nil)) okV_rt)
    exact h)
  | [] => trivial
  | _ :: _ :: _ => trivial
theorem u_shared_by : ∀ xs, RefF (F_shared_by xs) (L_shared_by xs)
  | [one, other] => ru_V (p := [.fz one, .fz other, .un]) rfl rfl (by
    have h : ST [.fz one, .fz other, .un] D_shared_by okV _ := (st_retG (be_cb (ba_cons (be_fz (be_lcF (bi_sq (be_op (be_var (i := 0) rfl) be_c)) rfl rfl (turnF_name (fun own => (be_bl (be_op (be_var (i := 2) rfl) (be_op (be_var (i := 1) rfl) be_c)))) (fun own => (be_var (i := 2) rfl)) (fun _ => WK.refl _) (fun _ => WK.refl _)))) ba_nil)) okV_rt)
    exact h)
  | [] => trivial
  | [_] => trivial
  | _ :: _ :: _ :: _ => trivial
theorem u_lots_bound : ∀ xs, RefF (F_lots_bound xs) (L_lots_bound xs)
  | [one, other] => ru_V (p := [.fz one, .fz other, .un, .un]) rfl rfl (by
    have h : ST [.fz one, .fz other, .un, .un] D_lots_bound okV _ := (st_set (be_call u_sure_lot (ba_cons (be_var (i := 0) rfl) ba_nil)) (Q := fun near => [.fz one, .fz other, .fz near, .un]) (fun _ => rfl) (fun near =>
 (st_set (be_call u_sure_lot (ba_cons (be_var (i := 1) rfl) ba_nil)) (Q := fun far => [.fz one, .fz other, .fz near, .fz far]) (fun _ => rfl) (fun far =>
 (st_if (be_or (be_bl (be_op (be_op (be_var (i := 2) rfl) be_c) (be_op (be_var (i := 3) rfl) be_c))) (be_bl (be_op (be_call u_shared_by (ba_cons (be_var (i := 2) rfl) (ba_cons (be_var (i := 3) rfl) ba_nil))) (be_tup ba_nil (by decide)))))
 st_raiseS
 (st_nxt (st_retG (be_op (be_op (be_var (i := 2) rfl) be_c) (be_op (be_var (i := 3) rfl) be_c)) okV_rt)))))))
    exact h)
  | [] => trivial
  | [_] => trivial
  | _ :: _ :: _ :: _ => trivial
theorem u_met_in : ∀ xs, RefF (F_met_in xs) (L_met_in xs)
  | [one, other, phases] => ru_V (p := [.fz one, .fz other, .fz phases, .un, .un, .un]) rfl rfl (by
    have h : ST [.fz one, .fz other, .fz phases, .un, .un, .un] D_met_in okV _ := (st_setO (be_lst ba_nil (by decide)) (Q := fun found => [.fz one, .fz other, .fz phases, .ow 1 found, .un, .un]) (fun _ => rfl) (fun found =>
 (st_fold (P := fun (s : List D) => [.fz one, .fz other, .fz phases, .ow 1 s, .any, .any]) (s0 := found) (bi_r1 (ba_cons (be_call u_together_in (ba_cons (be_var (i := 0) rfl) (ba_cons (be_var (i := 1) rfl) ba_nil))) ba_nil)) (wS (wS (wS (wS (wA (wA .nil)))))) (fun x0 s => tg_name (Q := fun slot => [.fz one, .fz other, .fz phases, .ow 1 s, .fz slot, .any]) (fun _ => rfl) (fun slot =>
 (st_set (be_op (be_var (i := 0) rfl) (be_op (be_op (be_op (be_var (i := 2) rfl) be_c) (be_var (i := 4) rfl)) (be_cb (ba_cons (be_var (i := 0) rfl) ba_nil)))) (Q := fun own => [.fz one, .fz other, .fz phases, .ow 1 s, .fz slot, .fz own]) (fun _ => rfl) (fun own =>
 (st_last (st_if (be_bl (be_op (be_var (i := 5) rfl) (be_op (be_var (i := 1) rfl) (be_op (be_op (be_op (be_var (i := 2) rfl) be_c) (be_var (i := 4) rfl)) (be_cb (ba_cons (be_var (i := 1) rfl) ba_nil))))))
 (st_app (i := 3) rfl (be_var (i := 5) rfl) rfl (Q := fun found_1 => [.fz one, .fz other, .fz phases, .ow 1 found_1, .fz slot, .fz own]) (fun _ => rfl) (fun found_1 =>
 (st_end (okN_nx (x := found_1) (wS (wS (wS (wS (wA (wA .nil))))))))))
 (st_nxt (st_end (okN_nx (x := s) (wS (wS (wS (wS (wA (wA .nil)))))))))))))) x0) (fun s_1 =>
 (st_retG (be_cb (ba_cons (be_fz (be_oun (be_varO (i := 3) rfl rfl))) ba_nil)) okV_rt)))))
    exact h)
  | [] => trivial
  | [_] => trivial
  | [_, _] => trivial
  | _ :: _ :: _ :: _ :: _ => trivial
theorem u_meet_channels : ∀ xs, RefF (F_meet_channels xs) (L_meet_channels xs)
  | [one, other, phases] => ru_V (p := [.fz one, .fz other, .fz phases, .un, .un]) rfl rfl (by
    have h : ST [.fz one, .fz other, .fz phases, .un, .un] D_meet_channels okV _ := (st_asg2 (be_call u_sure_two (ba_cons (be_var (i := 0) rfl) (ba_cons (be_var (i := 1) rfl) ba_nil))) (Q := fun near far => [.fz one, .fz other, .fz phases, .fz near, .fz far]) (fun _ _ => rfl) (fun near far =>
 (st_retG (be_call u_met_in (ba_cons (be_var (i := 3) rfl) (ba_cons (be_var (i := 4) rfl) (ba_cons (be_call u_sure_phases (ba_cons (be_var (i := 3) rfl) (ba_cons (be_var (i := 4) rfl) (ba_cons (be_var (i := 2) rfl) ba_nil)))) ba_nil)))) okV_rt)))
    exact h)
  | [] => trivial
  | [_] => trivial
  | [_, _] => trivial
  | _ :: _ :: _ :: _ :: _ => trivial
theorem u_meeting_row : ∀ xs, RefF (F_meeting_row xs) (L_meeting_row xs)
  | [one, other, phases] => ru_V (p := [.fz one, .fz other, .fz phases, .un, .un, .un, .un, .un, .un]) rfl rfl (by
    have h : ST [.fz one, .fz other, .fz phases, .un, .un, .un, .un, .un, .un] D_meeting_row okV _ := (st_asg2 (be_call u_sure_two (ba_cons (be_var (i := 0) rfl) (ba_cons (be_var (i := 1) rfl) ba_nil))) (Q := fun near far => [.fz one, .fz other, .fz phases, .fz near, .fz far, .un, .un, .un, .un]) (fun _ _ => rfl) (fun near far =>
 (st_set (be_call u_sure_phases (ba_cons (be_var (i := 3) rfl) (ba_cons (be_var (i := 4) rfl) (ba_cons (be_var (i := 2) rfl) ba_nil)))) (Q := fun own => [.fz one, .fz other, .fz phases, .fz near, .fz far, .fz own, .un, .un, .un]) (fun _ => rfl) (fun own =>
 (st_setO (be_lst ba_nil (by decide)) (Q := fun found => [.fz one, .fz other, .fz phases, .fz near, .fz far, .fz own, .ow 1 found, .un, .un]) (fun _ => rfl) (fun found =>
 (st_fold (P := fun (s : List D) => [.fz one, .fz other, .fz phases, .fz near, .fz far, .fz own, .ow 1 s, .any, .any]) (s0 := found) (bi_r1 (ba_cons (be_call u_together_in (ba_cons (be_var (i := 3) rfl) (ba_cons (be_var (i := 4) rfl) ba_nil))) ba_nil)) (wS (wS (wS (wS (wS (wS (wS (wA (wA .nil))))))))) (fun x0 s => tg_name (Q := fun slot => [.fz one, .fz other, .fz phases, .fz near, .fz far, .fz own, .ow 1 s, .fz slot, .any]) (fun _ => rfl) (fun slot =>
 (st_set (be_op (be_var (i := 3) rfl) (be_op (be_op (be_op (be_var (i := 5) rfl) be_c) (be_var (i := 7) rfl)) (be_cb (ba_cons (be_var (i := 3) rfl) ba_nil)))) (Q := fun here => [.fz one, .fz other, .fz phases, .fz near, .fz far, .fz own, .ow 1 s, .fz slot, .fz here]) (fun _ => rfl) (fun here =>
 (st_last (st_app (i := 6) rfl (be_if (be_bl (be_op (be_var (i := 8) rfl) (be_op (be_var (i := 4) rfl) (be_op (be_op (be_op (be_var (i := 5) rfl) be_c) (be_var (i := 7) rfl)) (be_cb (ba_cons (be_var (i := 4) rfl) ba_nil)))))) (be_var (i := 8) rfl) be_c) rfl (Q := fun found_1 => [.fz one, .fz other, .fz phases, .fz near, .fz far, .fz own, .ow 1 found_1, .fz slot, .fz here]) (fun _ => rfl) (fun found_1 =>
 (st_end (okN_nx (x := found_1) (wS (wS (wS (wS (wS (wS (wS (wA (wA .nil))))))))))))))))) x0) (fun s_1 =>
 (st_retG (be_cb (ba_cons (be_varO (i := 6) rfl rfl) ba_nil)) okV_rt)))))))))
    exact h)
  | [] => trivial
  | [_] => trivial
  | [_, _] => trivial
  | _ :: _ :: _ :: _ :: _ => trivial
theorem u_meetings_many : ∀ xs, RefF (F_meetings_many xs) (L_meetings_many xs)
  | [one, other, phases] => ru_V (p := [.fz one, .fz other, .fz phases, .un, .un, .un, .un, .un]) rfl rfl (by
    have h : ST [.fz one, .fz other, .fz phases, .un, .un, .un, .un, .un] D_meetings_many okV _ := (st_asg2 (be_call u_sure_two (ba_cons (be_var (i := 0) rfl) (ba_cons (be_var (i := 1) rfl) ba_nil))) (Q := fun near far => [.fz one, .fz other, .fz phases, .fz near, .fz far, .un, .un, .un]) (fun _ _ => rfl) (fun near far =>
 (st_set (be_call u_sure_phases (ba_cons (be_var (i := 3) rfl) (ba_cons (be_var (i := 4) rfl) (ba_cons (be_var (i := 2) rfl) ba_nil)))) (Q := fun own => [.fz one, .fz other, .fz phases, .fz near, .fz far, .fz own, .un, .un]) (fun _ => rfl) (fun own =>
 (st_set be_c (Q := fun found => [.fz one, .fz other, .fz phases, .fz near, .fz far, .fz own, .fz found, .un]) (fun _ => rfl) (fun found =>
 (st_fold (P := fun (s : D) => [.fz one, .fz other, .fz phases, .fz near, .fz far, .fz own, .fz s, .any]) (s0 := found) (bi_r1 (ba_cons (be_call u_together_in (ba_cons (be_var (i := 3) rfl) (ba_cons (be_var (i := 4) rfl) ba_nil))) ba_nil)) (wS (wS (wS (wS (wS (wS (wS (wA .nil)))))))) (fun x0 s => tg_name (Q := fun slot => [.fz one, .fz other, .fz phases, .fz near, .fz far, .fz own, .fz s, .fz slot]) (fun _ => rfl) (fun slot =>
 (st_last (st_aug (i := 6) rfl (be_cb (ba_cons (be_op (be_op (be_var (i := 3) rfl) (be_op (be_op (be_op (be_var (i := 5) rfl) be_c) (be_var (i := 7) rfl)) (be_cb (ba_cons (be_var (i := 3) rfl) ba_nil)))) (be_op (be_var (i := 4) rfl) (be_op (be_op (be_op (be_var (i := 5) rfl) be_c) (be_var (i := 7) rfl)) (be_cb (ba_cons (be_var (i := 4) rfl) ba_nil))))) ba_nil)) (Q := fun found_1 => [.fz one, .fz other, .fz phases, .fz near, .fz far, .fz own, .fz found_1, .fz slot]) (fun _ => rfl) (fun found_1 =>
 (st_end (okN_nx (x := found_1) (wS (wS (wS (wS (wS (wS (wS (wA .nil)))))))))))))) x0) (fun s_1 =>
 (st_retG (be_var (i := 6) rfl) okV_rt)))))))))
    exact h)
  | [] => trivial
  | [_] => trivial
  | [_, _] => trivial
  | _ :: _ :: _ :: _ :: _ => trivial
theorem u_moved : ∀ xs, RefF (F_moved xs) (L_moved xs)
  | [row, slots] => ru_V (p := [.fz row, .fz slots, .un]) rfl rfl (by
    have h : ST [.fz row, .fz slots, .un] D_moved okV _ := (st_set (be_call u_sure_hops (ba_cons (be_var (i := 0) rfl) ba_nil)) (Q := fun own => [.fz row, .fz slots, .fz own]) (fun _ => rfl) (fun own =>
 (st_retG (be_call u_moved_in (ba_cons (be_var (i := 2) rfl) (ba_cons (be_call u_sure_within (ba_cons (be_var (i := 1) rfl) (ba_cons (be_un be_c) (ba_cons be_c ba_nil)))) ba_nil))) okV_rt)))
    exact h)
  | [] => trivial
  | [_] => trivial
  | _ :: _ :: _ :: _ => trivial
theorem u_moved_slots : ∀ xs, RefF (F_moved_slots xs) (L_moved_slots xs)
  | [length, slots, by_] => ru_V (p := [.fz length, .fz slots, .fz by_, .un, .un, .un, .un]) rfl rfl (by
    have h : ST [.fz length, .fz slots, .fz by_, .un, .un, .un, .un] D_moved_slots okV _ := (st_set (be_call u_sure_round (ba_cons (be_var (i := 0) rfl) ba_nil)) (Q := fun many => [.fz length, .fz slots, .fz by_, .fz many, .un, .un, .un]) (fun _ => rfl) (fun many =>
 (st_set (be_call u_sure_slots (ba_cons (be_var (i := 3) rfl) (ba_cons (be_var (i := 1) rfl) ba_nil))) (Q := fun own => [.fz length, .fz slots, .fz by_, .fz many, .fz own, .un, .un]) (fun _ => rfl) (fun own =>
 (st_set (be_call u_sure_within (ba_cons (be_var (i := 2) rfl) (ba_cons (be_un be_c) (ba_cons be_c ba_nil)))) (Q := fun more => [.fz length, .fz slots, .fz by_, .fz many, .fz own, .fz more, .un]) (fun _ => rfl) (fun more =>
 (st_retG (be_cb (ba_cons (be_fz (be_ocb (ba_cons (be_fz (be_lc (bi_sq (be_var (i := 4) rfl)) rfl rfl (turn_name (fun slot => (be_op (be_op (be_var (i := 6) rfl) (be_var (i := 5) rfl)) (be_var (i := 3) rfl))) (fun _ => WK.refl _)))) ba_nil))) ba_nil)) okV_rt)))))))
    exact h)
  | [] => trivial
  | [_] => trivial
  | [_, _] => trivial
  | _ :: _ :: _ :: _ :: _ => trivial
theorem u_ones_in : ∀ xs, RefF (F_ones_in xs) (L_ones_in xs)
  | [code] => ru_V (p := [.fz code]) rfl rfl (by
    have h : ST [.fz code] D_ones_in okV _ := (st_retG (be_cb (ba_cons (be_call u_sure_code (ba_cons (be_var (i := 0) rfl) ba_nil)) ba_nil)) okV_rt)
    exact h)
  | [] => trivial
  | _ :: _ :: _ => trivial
theorem u_pair_counts : ∀ xs, RefF (F_pair_counts xs) (L_pair_counts xs)
  | [one, other, phases] => ru_V (p := [.fz one, .fz other, .fz phases, .un, .un, .un, .un]) rfl rfl (by
    have h : ST [.fz one, .fz other, .fz phases, .un, .un, .un, .un] D_pair_counts okV _ := (st_asg2 (be_call u_sure_two (ba_cons (be_var (i := 0) rfl) (ba_cons (be_var (i := 1) rfl) ba_nil))) (Q := fun near far => [.fz one, .fz other, .fz phases, .fz near, .fz far, .un, .un]) (fun _ _ => rfl) (fun near far =>
 (st_set (be_call u_pairs_in (ba_cons (be_var (i := 3) rfl) (ba_cons (be_var (i := 4) rfl) (ba_cons (be_call u_sure_phases (ba_cons (be_var (i := 3) rfl) (ba_cons (be_var (i := 4) rfl) (ba_cons (be_var (i := 2) rfl) ba_nil)))) ba_nil)))) (Q := fun found => [.fz one, .fz other, .fz phases, .fz near, .fz far, .fz found, .un]) (fun _ => rfl) (fun found =>
 (st_retG (be_cb (ba_cons (be_fz (be_lc (bi_sq (be_fz (be_ocb (ba_cons (be_var (i := 5) rfl) ba_nil)))) rfl rfl (turn_name (fun own => (be_tup (ba_cons (be_var (i := 6) rfl) (ba_cons (be_op (be_var (i := 5) rfl) (be_var (i := 6) rfl)) ba_nil)) (by decide))) (fun _ => WK.refl _)))) ba_nil)) okV_rt)))))
    exact h)
  | [] => trivial
  | [_] => trivial
  | [_, _] => trivial
  | _ :: _ :: _ :: _ :: _ => trivial
theorem u_pair_length : ∀ xs, RefF (F_pair_length xs) (L_pair_length xs)
  | [channels] => ru_V (p := [.fz channels, .un]) rfl rfl (by
    have h : ST [.fz channels, .un] D_pair_length okV _ := (st_set (be_call u_sure_many (ba_cons (be_var (i := 0) rfl) (ba_cons be_c ba_nil))) (Q := fun many => [.fz channels, .fz many]) (fun _ => rfl) (fun many =>
 (st_retG (be_op (be_var (i := 1) rfl) (be_var (i := 1) rfl)) okV_rt)))
    exact h)
  | [] => trivial
  | _ :: _ :: _ => trivial
theorem u_rest_slot : ∀ xs, RefF (F_rest_slot xs) (L_rest_slot xs)
  | [one, other, gaps] => ru_V (p := [.fz one, .fz other, .fz gaps, .un, .un, .un, .un, .un, .un]) rfl rfl (by
    have h : ST [.fz one, .fz other, .fz gaps, .un, .un, .un, .un, .un, .un] D_rest_slot okV _ := (st_set (be_call u_sure_round (ba_cons (be_var (i := 0) rfl) ba_nil)) (Q := fun near => [.fz one, .fz other, .fz gaps, .fz near, .un, .un, .un, .un, .un]) (fun _ => rfl) (fun near =>
 (st_set (be_call u_sure_round (ba_cons (be_var (i := 1) rfl) ba_nil)) (Q := fun far => [.fz one, .fz other, .fz gaps, .fz near, .fz far, .un, .un, .un, .un]) (fun _ => rfl) (fun far =>
 (st_set (be_call u_tupled (ba_cons (be_var (i := 2) rfl) ba_nil)) (Q := fun own => [.fz one, .fz other, .fz gaps, .fz near, .fz far, .fz own, .un, .un, .un]) (fun _ => rfl) (fun own =>
 (st_if (be_or (be_no (be_bl (be_call u_is_long (ba_cons (be_var (i := 5) rfl) (ba_cons be_c ba_nil))))) (be_or (be_no (be_bl (be_call u_is_within (ba_cons (be_op (be_var (i := 5) rfl) be_c) (ba_cons be_c (ba_cons (be_op (be_var (i := 3) rfl) be_c) ba_nil)))))) (be_no (be_bl (be_call u_is_within (ba_cons (be_op (be_var (i := 5) rfl) be_c) (ba_cons be_c (ba_cons (be_op (be_var (i := 4) rfl) be_c) ba_nil))))))))
 st_raiseS
 (st_nxt (st_set (be_call u_common (ba_cons (be_var (i := 3) rfl) (ba_cons (be_var (i := 4) rfl) ba_nil))) (Q := fun share => [.fz one, .fz other, .fz gaps, .fz near, .fz far, .fz own, .fz share, .un, .un]) (fun _ => rfl) (fun share =>
 (st_if (be_bl (be_op (be_op (be_op (be_op (be_var (i := 5) rfl) be_c) (be_op (be_var (i := 5) rfl) be_c)) (be_var (i := 6) rfl)) be_c))
 st_raiseS
 (st_nxt (st_set (be_op (be_var (i := 4) rfl) (be_var (i := 6) rfl)) (Q := fun many => [.fz one, .fz other, .fz gaps, .fz near, .fz far, .fz own, .fz share, .fz many, .un]) (fun _ => rfl) (fun many =>
 (st_set (be_op (be_op (be_op (be_op (be_op (be_var (i := 5) rfl) be_c) (be_op (be_var (i := 5) rfl) be_c)) (be_var (i := 6) rfl)) (be_call u_contrary_by (ba_cons (be_op (be_var (i := 3) rfl) (be_var (i := 6) rfl)) (ba_cons (be_var (i := 7) rfl) ba_nil)))) (be_var (i := 7) rfl)) (Q := fun steps => [.fz one, .fz other, .fz gaps, .fz near, .fz far, .fz own, .fz share, .fz many, .fz steps]) (fun _ => rfl) (fun steps =>
 (st_retG (be_op (be_op (be_var (i := 5) rfl) be_c) (be_op (be_var (i := 3) rfl) (be_var (i := 8) rfl))) okV_rt)))))))))))))))))
    exact h)
  | [] => trivial
  | [_] => trivial
  | [_, _] => trivial
  | _ :: _ :: _ :: _ :: _ => trivial
theorem u_place_slot : ∀ xs, RefF (F_place_slot xs) (L_place_slot xs)
  | [one, other, phases, places] => ru_V (p := [.fz one, .fz other, .fz phases, .fz places, .un, .un, .un, .un]) rfl rfl (by
    have h : ST [.fz one, .fz other, .fz phases, .fz places, .un, .un, .un, .un] D_place_slot okV _ := (st_set (be_call u_sure_round (ba_cons (be_var (i := 0) rfl) ba_nil)) (Q := fun near => [.fz one, .fz other, .fz phases, .fz places, .fz near, .un, .un, .un]) (fun _ => rfl) (fun near =>
 (st_set (be_call u_sure_round (ba_cons (be_var (i := 1) rfl) ba_nil)) (Q := fun far => [.fz one, .fz other, .fz phases, .fz places, .fz near, .fz far, .un, .un]) (fun _ => rfl) (fun far =>
 (st_set (be_fz (be_lst (ba_cons (be_call u_tupled (ba_cons (be_var (i := 2) rfl) ba_nil)) (ba_cons (be_call u_tupled (ba_cons (be_var (i := 3) rfl) ba_nil)) ba_nil)) (by decide))) (Q := fun pairs => [.fz one, .fz other, .fz phases, .fz places, .fz near, .fz far, .fz pairs, .un]) (fun _ => rfl) (fun pairs =>
 (st_fold (P := fun (s : Unit) => [.fz one, .fz other, .fz phases, .fz places, .fz near, .fz far, .fz pairs, .any]) (s0 := ()) (bi_sq (be_var (i := 6) rfl)) (wS (wS (wS (wS (wS (wS (wS (wA .nil)))))))) (fun x0 s => tg_name (Q := fun own => [.fz one, .fz other, .fz phases, .fz places, .fz near, .fz far, .fz pairs, .fz own]) (fun _ => rfl) (fun own =>
 (st_last (st_if (be_or (be_no (be_bl (be_call u_is_long (ba_cons (be_var (i := 7) rfl) (ba_cons be_c ba_nil))))) (be_or (be_no (be_bl (be_call u_is_within (ba_cons (be_op (be_var (i := 7) rfl) be_c) (ba_cons be_c (ba_cons (be_op (be_var (i := 4) rfl) be_c) ba_nil)))))) (be_no (be_bl (be_call u_is_within (ba_cons (be_op (be_var (i := 7) rfl) be_c) (ba_cons be_c (ba_cons (be_op (be_var (i := 5) rfl) be_c) ba_nil))))))))
 st_raiseS
 (st_nxt (st_end (okN_nx (x := ()) (wS (wS (wS (wS (wS (wS (wS (wA .nil)))))))))))))) x0) (fun s_1 =>
 (st_retG (be_call u_rest_slot (ba_cons (be_var (i := 4) rfl) (ba_cons (be_var (i := 5) rfl) (ba_cons (be_tup (ba_cons (be_op (be_op (be_op (be_op (be_var (i := 6) rfl) be_c) be_c) (be_op (be_op (be_var (i := 6) rfl) be_c) be_c)) (be_var (i := 4) rfl)) (ba_cons (be_op (be_op (be_op (be_op (be_var (i := 6) rfl) be_c) be_c) (be_op (be_op (be_var (i := 6) rfl) be_c) be_c)) (be_var (i := 5) rfl)) ba_nil)) (by decide)) ba_nil)))) okV_rt)))))))))
    exact h)
  | [] => trivial
  | [_] => trivial
  | [_, _] => trivial
  | [_, _, _] => trivial
  | _ :: _ :: _ :: _ :: _ :: _ => trivial
theorem u_put_behind : ∀ xs, RefF (F_put_behind xs) (L_put_behind xs)
  | [one, other] => ru_V (p := [.fz one, .fz other, .un]) rfl rfl (by
    have h : ST [.fz one, .fz other, .un] D_put_behind okV _ := (st_set (be_call u_sure_hops (ba_cons (be_var (i := 0) rfl) ba_nil)) (Q := fun own => [.fz one, .fz other, .fz own]) (fun _ => rfl) (fun own =>
 (st_retG (be_call u_sure_long (ba_cons (be_op (be_var (i := 2) rfl) (be_call u_sure_hops (ba_cons (be_var (i := 1) rfl) ba_nil))) ba_nil)) okV_rt)))
    exact h)
  | [] => trivial
  | [_] => trivial
  | _ :: _ :: _ :: _ => trivial
theorem u_renamed : ∀ xs, RefF (F_renamed xs) (L_renamed xs)
  | [row, channels] => ru_V (p := [.fz row, .fz channels, .un, .un, .un, .un]) rfl rfl (by
    have h : ST [.fz row, .fz channels, .un, .un, .un, .un] D_renamed okV _ := (st_set (be_call u_sure_hops (ba_cons (be_var (i := 0) rfl) ba_nil)) (Q := fun own => [.fz row, .fz channels, .fz own, .un, .un, .un]) (fun _ => rfl) (fun own =>
 (st_set (be_call u_tupled (ba_cons (be_var (i := 1) rfl) ba_nil)) (Q := fun names => [.fz row, .fz channels, .fz own, .fz names, .un, .un]) (fun _ => rfl) (fun names =>
 (st_if (be_or (be_no (be_bl (be_un (be_var (i := 3) rfl)))) (be_no (be_bl (be_cb (ba_cons (be_fz (be_lc (bi_sq (be_var (i := 3) rfl)) rfl rfl (turn_name (fun its => (be_call u_is_within (ba_cons (be_var (i := 5) rfl) (ba_cons be_c (ba_cons be_c ba_nil))))) (fun _ => WK.refl _)))) ba_nil)))))
 st_raiseS
 (st_nxt (st_if (be_bl (be_op (be_cb (ba_cons (be_var (i := 2) rfl) ba_nil)) (be_cb (ba_cons (be_var (i := 3) rfl) ba_nil))))
 st_raiseS
 (st_nxt (st_retG (be_cb (ba_cons (be_fz (be_lc (bi_sq (be_var (i := 2) rfl)) rfl rfl (turn_name (fun channel => (be_op (be_var (i := 3) rfl) (be_var (i := 4) rfl))) (fun _ => WK.refl _)))) ba_nil)) okV_rt)))))))))
    exact h)
  | [] => trivial
  | [_] => trivial
  | _ :: _ :: _ :: _ => trivial
theorem u_row_changed : ∀ xs, RefF (F_row_changed xs) (L_row_changed xs)
  | [word, row, goods] => ru_V (p := [.fz word, .fz row, .fz goods, .un, .un]) rfl rfl (by
    have h : ST [.fz word, .fz row, .fz goods, .un, .un] D_row_changed okV _ := (st_if (be_bl (be_op (be_var (i := 0) rfl) be_c))
 (st_retS (be_call u_moved_in (ba_cons (be_var (i := 1) rfl) (ba_cons (be_op (be_var (i := 2) rfl) be_c) ba_nil))) okV_rt)
 (st_nxt (st_if (be_bl (be_op (be_var (i := 0) rfl) be_c))
 (st_retS (be_un (be_var (i := 1) rfl)) okV_rt)
 (st_nxt (st_if (be_bl (be_op (be_var (i := 0) rfl) be_c))
 (st_retS (be_cb (ba_cons (be_fz (be_lc (bi_r1 (ba_cons (be_op (be_cb (ba_cons (be_var (i := 1) rfl) ba_nil)) (be_op (be_var (i := 2) rfl) be_c)) ba_nil)) rfl rfl (turn_name (fun place => (be_op (be_var (i := 1) rfl) (be_op (be_var (i := 3) rfl) (be_op (be_var (i := 2) rfl) be_c)))) (fun _ => WK.refl _)))) ba_nil)) okV_rt)
 (st_nxt (st_if (be_bl (be_op (be_var (i := 0) rfl) be_c))
 (st_retS (be_cb (ba_cons (be_fz (be_lc (bi_sq (be_var (i := 1) rfl)) rfl rfl (turn_name (fun channel => (be_op (be_var (i := 4) rfl) (be_op (be_var (i := 2) rfl) be_c))) (fun _ => WK.refl _)))) ba_nil)) okV_rt)
 (st_nxt (st_retG (be_if (be_bl (be_op (be_var (i := 0) rfl) be_c)) (be_op (be_var (i := 1) rfl) (be_op (be_var (i := 2) rfl) be_c)) (be_call u_least_in (ba_cons (be_var (i := 1) rfl) ba_nil))) okV_rt)))))))))
    exact h)
  | [] => trivial
  | [_] => trivial
  | [_, _] => trivial
  | _ :: _ :: _ :: _ :: _ => trivial
theorem u_row_made : ∀ xs, RefF (F_row_made xs) (L_row_made xs)
  | [word, goods] => ru_V (p := [.fz word, .fz goods, .un, .un]) rfl rfl (by
    have h : ST [.fz word, .fz goods, .un, .un] D_row_made okV _ := (st_if (be_bl (be_op (be_var (i := 0) rfl) be_c))
 (st_retS (be_var (i := 1) rfl) okV_rt)
 (st_nxt (st_if (be_bl (be_op (be_var (i := 0) rfl) be_c))
 (st_retS (be_var (i := 1) rfl) okV_rt)
 (st_nxt (st_if (be_or (be_no (be_bl (be_call u_is_prime_in (ba_cons (be_op (be_var (i := 1) rfl) be_c) ba_nil)))) (be_no (be_bl (be_cb (ba_cons (be_fz (be_lc (bi_sq (be_sl (be_var (i := 1) rfl) (be_pSome be_c) be_pNo)) rfl rfl (turn_name (fun its => (be_op (be_var (i := 3) rfl) (be_op (be_var (i := 1) rfl) be_c))) (fun _ => WK.refl _)))) ba_nil)))))
 (st_retS be_c okV_rt)
 (st_nxt (st_set (be_call u_clock_in (ba_cons (be_op (be_var (i := 1) rfl) be_c) (ba_cons (be_op (be_var (i := 1) rfl) be_c) (ba_cons (be_op (be_var (i := 1) rfl) be_c) ba_nil)))) (Q := fun round_once => [.fz word, .fz goods, .fz round_once, .un]) (fun _ => rfl) (fun round_once =>
 (st_if (be_bl (be_op (be_var (i := 0) rfl) be_c))
 (st_retS (be_var (i := 2) rfl) okV_rt)
 (st_nxt (st_retG (be_if (be_bl (be_op (be_op (be_var (i := 1) rfl) be_c) be_c)) be_c (be_op (be_op (be_var (i := 2) rfl) be_c) (be_op (be_tup (ba_cons (be_op (be_var (i := 1) rfl) be_c) ba_nil) (by decide)) (be_op (be_var (i := 1) rfl) be_c)))) okV_rt)))))))))))
    exact h)
  | [] => trivial
  | [_] => trivial
  | _ :: _ :: _ :: _ => trivial
theorem u_shared_channels : ∀ xs, RefF (F_shared_channels xs) (L_shared_channels xs)
  | [one, other] => ru_V (p := [.fz one, .fz other, .un, .un]) rfl rfl (by
    have h : ST [.fz one, .fz other, .un, .un] D_shared_channels okV _ := (st_asg2 (be_call u_sure_two (ba_cons (be_var (i := 0) rfl) (ba_cons (be_var (i := 1) rfl) ba_nil))) (Q := fun near far => [.fz one, .fz other, .fz near, .fz far]) (fun _ _ => rfl) (fun near far =>
 (st_retG (be_call u_shared_in (ba_cons (be_var (i := 2) rfl) (ba_cons (be_var (i := 3) rfl) ba_nil))) okV_rt)))
    exact h)
  | [] => trivial
  | [_] => trivial
  | _ :: _ :: _ :: _ => trivial
theorem u_sure_silent : ∀ xs, RefF (F_sure_silent xs) (L_sure_silent xs)
  | [value] => ru_V (p := [.fz value, .un, .un, .un, .un]) rfl rfl (by
    have h : ST [.fz value, .un, .un, .un, .un] D_sure_silent okV _ := (st_set (be_call u_tupled (ba_cons (be_var (i := 0) rfl) ba_nil)) (Q := fun own => [.fz value, .fz own, .un, .un, .un]) (fun _ => rfl) (fun own =>
 (st_if (be_or (be_no (be_bl (be_un (be_var (i := 1) rfl)))) (be_no (be_bl (be_cb (ba_cons (be_fz (be_lc (bi_sq (be_var (i := 1) rfl)) rfl rfl (turn_name (fun its => (be_call u_is_within (ba_cons (be_var (i := 4) rfl) (ba_cons be_c (ba_cons be_c ba_nil))))) (fun _ => WK.refl _)))) ba_nil)))))
 st_raiseS
 (st_nxt (st_if (be_no (be_bl (be_cb (ba_cons (be_fz (be_lc (bi_zp (ba_cons (be_var (i := 1) rfl) (ba_cons (be_sl (be_var (i := 1) rfl) (be_pSome be_c) be_pNo) ba_nil))) rfl rfl (turn_tup2 (fun near far => (be_op (be_var (i := 2) rfl) (be_var (i := 3) rfl))) (fun _ _ => WK.refl _)))) ba_nil))))
 st_raiseS
 (st_nxt (st_retG (be_var (i := 1) rfl) okV_rt)))))))
    exact h)
  | [] => trivial
  | _ :: _ :: _ => trivial
theorem u_slots_of : ∀ xs, RefF (F_slots_of xs) (L_slots_of xs)
  | [row, channel] => ru_V (p := [.fz row, .fz channel, .un]) rfl rfl (by
    have h : ST [.fz row, .fz channel, .un] D_slots_of okV _ := (st_set (be_call u_sure_hops (ba_cons (be_var (i := 0) rfl) ba_nil)) (Q := fun own => [.fz row, .fz channel, .fz own]) (fun _ => rfl) (fun own =>
 (st_retG (be_call u_slots_in (ba_cons (be_var (i := 2) rfl) (ba_cons (be_call u_sure_channel (ba_cons (be_var (i := 1) rfl) ba_nil)) ba_nil))) okV_rt)))
    exact h)
  | [] => trivial
  | [_] => trivial
  | _ :: _ :: _ :: _ => trivial
theorem u_stay_row : ∀ xs, RefF (F_stay_row xs) (L_stay_row xs)
  | [channel] => ru_V (p := [.fz channel]) rfl rfl (by
    have h : ST [.fz channel] D_stay_row okV _ := (st_retG (be_tup (ba_cons (be_call u_sure_channel (ba_cons (be_var (i := 0) rfl) ba_nil)) ba_nil) (by decide)) okV_rt)
    exact h)
  | [] => trivial
  | _ :: _ :: _ => trivial
theorem u_staying_on : ∀ xs, RefF (F_staying_on xs) (L_staying_on xs)
  | [many, slots] => ru_V (p := [.fz many, .fz slots, .un, .un, .un]) rfl rfl (by
    have h : ST [.fz many, .fz slots, .un, .un, .un] D_staying_on okV _ := (st_set (be_call u_sure_within (ba_cons (be_var (i := 0) rfl) (ba_cons be_c (ba_cons be_c ba_nil)))) (Q := fun own => [.fz many, .fz slots, .fz own, .un, .un]) (fun _ => rfl) (fun own =>
 (st_set (be_call u_sure_within (ba_cons (be_var (i := 1) rfl) (ba_cons be_c (ba_cons be_c ba_nil)))) (Q := fun often => [.fz many, .fz slots, .fz own, .fz often, .un]) (fun _ => rfl) (fun often =>
 (st_retG (be_cb (ba_cons (be_fz (be_lc (bi_r1 (ba_cons (be_op (be_var (i := 2) rfl) (be_var (i := 3) rfl)) ba_nil)) rfl rfl (turn_name (fun slot => (be_op (be_var (i := 4) rfl) (be_var (i := 3) rfl))) (fun _ => WK.refl _)))) ba_nil)) okV_rt)))))
    exact h)
  | [] => trivial
  | [_] => trivial
  | _ :: _ :: _ :: _ => trivial
theorem u_sure_text : ∀ xs, RefF (F_sure_text xs) (L_sure_text xs)
  | [text] => ru_V (p := [.fz text]) rfl rfl (by
    have h : ST [.fz text] D_sure_text okV _ := (st_if (be_or (be_no (be_bl (be_un (be_var (i := 0) rfl)))) (be_bl (be_op (be_cb (ba_cons (be_var (i := 0) rfl) ba_nil)) be_c)))
 st_raiseS
 (st_nxt (st_retG (be_var (i := 0) rfl) okV_rt)))
    exact h)
  | [] => trivial
  | _ :: _ :: _ => trivial
theorem u_times_slots : ∀ xs, RefF (F_times_slots xs) (L_times_slots xs)
  | [length, slots, by_] => ru_V (p := [.fz length, .fz slots, .fz by_, .un, .un, .un, .un]) rfl rfl (by
    have h : ST [.fz length, .fz slots, .fz by_, .un, .un, .un, .un] D_times_slots okV _ := (st_set (be_call u_sure_round (ba_cons (be_var (i := 0) rfl) ba_nil)) (Q := fun many => [.fz length, .fz slots, .fz by_, .fz many, .un, .un, .un]) (fun _ => rfl) (fun many =>
 (st_set (be_call u_sure_slots (ba_cons (be_var (i := 3) rfl) (ba_cons (be_var (i := 1) rfl) ba_nil))) (Q := fun own => [.fz length, .fz slots, .fz by_, .fz many, .fz own, .un, .un]) (fun _ => rfl) (fun own =>
 (st_set (be_call u_sure_within (ba_cons (be_var (i := 2) rfl) (ba_cons be_c (ba_cons be_c ba_nil)))) (Q := fun often => [.fz length, .fz slots, .fz by_, .fz many, .fz own, .fz often, .un]) (fun _ => rfl) (fun often =>
 (st_retG (be_cb (ba_cons (be_fz (be_oun (be_fz (be_lc (bi_sq (be_var (i := 4) rfl)) rfl rfl (turn_name (fun slot => (be_op (be_op (be_var (i := 6) rfl) (be_var (i := 5) rfl)) (be_var (i := 3) rfl))) (fun _ => WK.refl _)))))) ba_nil)) okV_rt)))))))
    exact h)
  | [] => trivial
  | [_] => trivial
  | [_, _] => trivial
  | _ :: _ :: _ :: _ :: _ => trivial
theorem u_turned_about : ∀ xs, RefF (F_turned_about xs) (L_turned_about xs)
  | [row] => ru_V (p := [.fz row]) rfl rfl (by
    have h : ST [.fz row] D_turned_about okV _ := (st_retG (be_un (be_call u_sure_hops (ba_cons (be_var (i := 0) rfl) ba_nil))) okV_rt)
    exact h)
  | [] => trivial
  | _ :: _ :: _ => trivial
theorem u_turning_between : ∀ xs, RefF (F_turning_between xs) (L_turning_between xs)
  | [one, other] => ru_V (p := [.fz one, .fz other, .un, .un, .un, .un]) rfl rfl (by
    have h : ST [.fz one, .fz other, .un, .un, .un, .un] D_turning_between okV _ := (st_asg2 (be_call u_sure_codes (ba_cons (be_var (i := 0) rfl) (ba_cons (be_var (i := 1) rfl) ba_nil))) (Q := fun near far => [.fz one, .fz other, .fz near, .fz far, .un, .un]) (fun _ _ => rfl) (fun near far =>
 (st_set (be_fz (be_lcF (bi_r1 (ba_cons (be_cb (ba_cons (be_var (i := 2) rfl) ba_nil)) ba_nil)) rfl rfl (turnF_name (fun shift => (be_bl (be_op (be_call u_turned_code (ba_cons (be_var (i := 2) rfl) (ba_cons (be_var (i := 5) rfl) ba_nil))) (be_var (i := 3) rfl)))) (fun shift => (be_var (i := 5) rfl)) (fun _ => WK.refl _) (fun _ => WK.refl _)))) (Q := fun found => [.fz one, .fz other, .fz near, .fz far, .fz found, .un]) (fun _ => rfl) (fun found =>
 (st_if (be_bl (be_op (be_var (i := 4) rfl) (be_fz (be_lst ba_nil (by decide)))))
 st_raiseS
 (st_nxt (st_retG (be_op (be_var (i := 4) rfl) be_c) okV_rt)))))))
    exact h)
  | [] => trivial
  | [_] => trivial
  | _ :: _ :: _ :: _ => trivial
theorem u_waiting : ∀ xs, RefF (F_waiting xs) (L_waiting xs)
  | [many] => ru_V (p := [.fz many, .un, .un]) rfl rfl (by
    have h : ST [.fz many, .un, .un] D_waiting okV _ := (st_set (be_call u_sure_within (ba_cons (be_var (i := 0) rfl) (ba_cons be_c (ba_cons be_c ba_nil)))) (Q := fun own => [.fz many, .fz own, .un]) (fun _ => rfl) (fun own =>
 (st_retG (be_cb (ba_cons (be_fz (be_lc (bi_r1 (ba_cons (be_op (be_var (i := 1) rfl) (be_var (i := 1) rfl)) ba_nil)) rfl rfl (turn_name (fun slot => (be_op (be_var (i := 2) rfl) (be_var (i := 1) rfl))) (fun _ => WK.refl _)))) ba_nil)) okV_rt)))
    exact h)
  | [] => trivial
  | _ :: _ :: _ => trivial
theorem u_woven : ∀ xs, RefF (F_woven xs) (L_woven xs)
  | [one, other] => ru_V (p := [.fz one, .fz other, .un, .un, .un, .un, .un]) rfl rfl (by
    have h : ST [.fz one, .fz other, .un, .un, .un, .un, .un] D_woven okV _ := (st_set (be_call u_sure_hops (ba_cons (be_var (i := 0) rfl) ba_nil)) (Q := fun own => [.fz one, .fz other, .fz own, .un, .un, .un, .un]) (fun _ => rfl) (fun own =>
 (st_set (be_call u_sure_hops (ba_cons (be_var (i := 1) rfl) ba_nil)) (Q := fun its => [.fz one, .fz other, .fz own, .fz its, .un, .un, .un]) (fun _ => rfl) (fun its =>
 (st_set (be_call u_together_in (ba_cons (be_var (i := 2) rfl) (ba_cons (be_var (i := 3) rfl) ba_nil))) (Q := fun many => [.fz one, .fz other, .fz own, .fz its, .fz many, .un, .un]) (fun _ => rfl) (fun many =>
 (st_if (be_bl (be_op (be_op be_c (be_var (i := 4) rfl)) be_c))
 st_raiseS
 (st_nxt (st_set (be_tup ba_nil (by decide)) (Q := fun found => [.fz one, .fz other, .fz own, .fz its, .fz many, .fz found, .un]) (fun _ => rfl) (fun found =>
 (st_fold (P := fun (s : D) => [.fz one, .fz other, .fz own, .fz its, .fz many, .fz s, .any]) (s0 := found) (bi_r1 (ba_cons (be_var (i := 4) rfl) ba_nil)) (wS (wS (wS (wS (wS (wS (wA .nil))))))) (fun x0 s => tg_name (Q := fun slot => [.fz one, .fz other, .fz own, .fz its, .fz many, .fz s, .fz slot]) (fun _ => rfl) (fun slot =>
 (st_last (st_set (be_op (be_var (i := 5) rfl) (be_tup (ba_cons (be_op (be_var (i := 2) rfl) (be_op (be_var (i := 6) rfl) (be_cb (ba_cons (be_var (i := 2) rfl) ba_nil)))) (ba_cons (be_op (be_var (i := 3) rfl) (be_op (be_var (i := 6) rfl) (be_cb (ba_cons (be_var (i := 3) rfl) ba_nil)))) ba_nil)) (by decide))) (Q := fun found_1 => [.fz one, .fz other, .fz own, .fz its, .fz many, .fz found_1, .fz slot]) (fun _ => rfl) (fun found_1 =>
 (st_end (okN_nx (x := found_1) (wS (wS (wS (wS (wS (wS (wA .nil))))))))))))) x0) (fun s_1 =>
 (st_retG (be_var (i := 5) rfl) okV_rt)))))))))))))
    exact h)
  | [] => trivial
  | [_] => trivial
  | _ :: _ :: _ :: _ => trivial
end WK

set_option Elab.async false
set_option linter.all false
set_option maxRecDepth 100000
set_option maxHeartbeats 1000000
/-! UM1: what slot-free programs do with plain data -/
namespace DL
open PySem PySem.Spec PyProof.Rows L2
/-! operations -/
@[simp] theorem addD_int (a b : Int) : addD (.int a) (.int b) = some (.int (a + b)) := Eq.trans rfl rfl
@[simp] theorem subD_int (a b : Int) : subD (.int a) (.int b) = some (.int (a - b)) := Eq.trans rfl rfl
@[simp] theorem negD_int (a : Int) : negD (.int a) = some (.int (-a)) := Eq.trans rfl rfl
@[simp] theorem cmI_int (f : Int → Int → Bool) (a b : Int) : cmI f (.int a) (.int b) = some (.bl (f a b)) := Eq.trans rfl rfl
@[simp] theorem notD_bl (b : Bool) : notD (.bl b) = some (.bl (!b)) := Eq.trans rfl rfl
theorem modD_int {i j : Int} (h : 0 < j) : modD (.int i) (.int j) = some (.int (i % j)) := if_pos h
theorem fdivD_int {i j : Int} (h : 0 < j) (h2 : j < 1073741824) : fdivD (.int i) (.int j) = some (.int (i / j)) := if_pos ⟨h, h2⟩
theorem mulD_l {i j : Int} (h : -18446744073709551616 < i) (h' : i < 18446744073709551616) : mulD (.int i) (.int j) = some (.int (i * j)) := if_pos (.inl ⟨h, h'⟩)
theorem mulD_r {i j : Int} (h : -18446744073709551616 < j) (h' : j < 18446744073709551616) : mulD (.int i) (.int j) = some (.int (i * j)) := if_pos (.inr ⟨h, h'⟩)
theorem powD_int {i j : Int} (h : 0 ≤ j ∧ j ≤ 1000000 ∧ i.natAbs < 2 ^ 64) : powD (.int i) (.int j) = some (.int (i ^ j.toNat)) := if_pos h
@[simp] theorem lenD_lst (l : List D) : lenD [.lst l] = some (.int l.length) := Eq.trans rfl rfl
@[simp] theorem lenD_tup (l : List D) : lenD [.tup l] = some (.int l.length) := Eq.trans rfl rfl
@[simp] theorem lenD_scr (l : List Int) : lenD [.scr l] = some (.int l.length) := Eq.trans rfl rfl
@[simp] theorem intD_int (i : Int) : intD [.int i] = some (.int i) := Eq.trans rfl rfl
@[simp] theorem intD_bl (b : Bool) : intD [.bl b] = some (.int (if b then 1 else 0)) := Eq.trans rfl rfl
@[simp] theorem absD_int (i : Int) : absD [.int i] = some (.int (if i < 0 then -i else i)) := Eq.trans rfl rfl
@[simp] theorem tupD_lst (l : List D) : tupD [.lst l] = some (.tup l) := Eq.trans rfl rfl
@[simp] theorem tupD_tup (l : List D) : tupD [.tup l] = some (.tup l) := Eq.trans rfl rfl
@[simp] theorem listO_lst (l : List D) : listO [.lst l] = some l := Eq.trans rfl rfl
@[simp] theorem listO_tup (l : List D) : listO [.tup l] = some l := Eq.trans rfl rfl
@[simp] theorem listO_scr (l : List Int) : listO [.scr l] = some (l.map D.int) := Eq.trans rfl rfl
@[simp] theorem enU_lst (l : List D) : enU [.lst l] = some (enD l 0) := Eq.trans rfl rfl
@[simp] theorem enU_tup (l : List D) : enU [.tup l] = some (enD l 0) := Eq.trans rfl rfl
@[simp] theorem zpU_lst (l m : List D) : zpU [.lst l, .lst m] = some (zpD l m) := Eq.trans rfl rfl
@[simp] theorem zpU_tup (l m : List D) : zpU [.tup l, .tup m] = some (zpD l m) := Eq.trans rfl rfl
@[simp] theorem isN_non : isN .non .non = some (.bl true) := Eq.trans rfl rfl
@[simp] theorem isN_int (i : Int) : isN (.int i) .non = some (.bl false) := Eq.trans rfl rfl
@[simp] theorem isN_bl (i : Bool) : isN (.bl i) .non = some (.bl false) := Eq.trans rfl rfl
@[simp] theorem isN_str (i : Str) : isN (.str i) .non = some (.bl false) := Eq.trans rfl rfl
@[simp] theorem isN_tup (i : List D) : isN (.tup i) .non = some (.bl false) := Eq.trans rfl rfl
@[simp] theorem isN_lst (i : List D) : isN (.lst i) .non = some (.bl false) := Eq.trans rfl rfl
@[simp] theorem notN_non : notN .non .non = some (.bl false) := Eq.trans rfl rfl
@[simp] theorem notN_int (i : Int) : notN (.int i) .non = some (.bl true) := Eq.trans rfl rfl
@[simp] theorem notN_bl (i : Bool) : notN (.bl i) .non = some (.bl true) := Eq.trans rfl rfl
@[simp] theorem notN_str (i : Str) : notN (.str i) .non = some (.bl true) := Eq.trans rfl rfl
@[simp] theorem notN_tup (i : List D) : notN (.tup i) .non = some (.bl true) := Eq.trans rfl rfl
@[simp] theorem notN_lst (i : List D) : notN (.lst i) .non = some (.bl true) := Eq.trans rfl rfl
section
variable (t u : Ty) (i : Int) (b : Bool) (x : Str) (l : List D)
@[simp] theorem isD1_int : isD1 t (.int i) = some (.bl (decide (t = .int))) := Eq.trans rfl rfl
@[simp] theorem isD1_bl : isD1 t (.bl b) = some (.bl (decide (t = .int ∨ t = .bool))) := Eq.trans rfl rfl
@[simp] theorem isD1_str : isD1 t (.str x) = some (.bl (decide (t = .str))) := Eq.trans rfl rfl
@[simp] theorem isD1_lst : isD1 t (.lst l) = some (.bl (decide (t = .list))) := Eq.trans rfl rfl
@[simp] theorem isD1_tup : isD1 t (.tup l) = some (.bl (decide (t = .tuple))) := Eq.trans rfl rfl
@[simp] theorem isD1_non : isD1 t .non = some (.bl false) := Eq.trans rfl rfl
@[simp] theorem isD2_int : isD2 t u (.int i) = some (.bl (decide (t = .int) || decide (u = .int))) := Eq.trans rfl rfl
@[simp] theorem isD2_bl : isD2 t u (.bl b) = some (.bl (decide (t = .int ∨ t = .bool) || decide (u = .int ∨ u = .bool))) := Eq.trans rfl rfl
@[simp] theorem isD2_str : isD2 t u (.str x) = some (.bl (decide (t = .str) || decide (u = .str))) := Eq.trans rfl rfl
@[simp] theorem isD2_lst : isD2 t u (.lst l) = some (.bl (decide (t = .list) || decide (u = .list))) := Eq.trans rfl rfl
@[simp] theorem isD2_tup : isD2 t u (.tup l) = some (.bl (decide (t = .tuple) || decide (u = .tuple))) := Eq.trans rfl rfl
@[simp] theorem isD2_non : isD2 t u .non = some (.bl false) := Eq.trans rfl rfl
end
/-! == -/
theorem toPs_iL (l : List Int) : toPs (iL l) = some (l.map PyData.int) := by
  induction l with
  | nil => rfl
  | cons a l ih =>
    show (match toP (.int a), toPs (iL l) with
      | some p, some ps => some (p :: ps)
      | _, _ => none) = _
    rw [ih]
    rfl
theorem eqvAll_ints : ∀ (a b : List Int), PyData.eqvAll (a.map PyData.int) (b.map PyData.int) = decide (a = b)
  | [], [] => rfl
  | [], _ :: _ => rfl
  | _ :: _, [] => rfl
  | x :: a, y :: b => by
    rw [List.map_cons, List.map_cons, PyData.eqvAll, PyData.eqv, eqvAll_ints a b]
    by_cases h : x = y
    · subst h; simp
    · simp [h]
theorem depth_ints (l : List Int) : (PyData.list (l.map PyData.int)).depth ≤ 64 ∧ (PyData.tuple (l.map PyData.int)).depth ≤ 64 := by
  have : PyData.depthAll (l.map PyData.int) ≤ 1 := by
    induction l with
    | nil => simp [PyData.depthAll]
    | cons a l ih =>
      rw [List.map_cons, PyData.depthAll]
      have : (PyData.int a).depth ≤ 1 := by simp [PyData.depth]
      omega
  constructor <;> (rw [PyData.depth]; omega)
@[simp] theorem eqD_int (a b : Int) : eqD (.int a) (.int b) = some (.bl (decide (a = b))) := by
  show (if (PyData.int a).depth ≤ 64 ∧ (PyData.int b).depth ≤ 64 then some (D.bl (PyData.eqv (.int a) (.int b))) else none) = _
  rw [if_pos (by constructor <;> simp [PyData.depth])]
  show some (D.bl (a == b)) = _
  congr 2
@[simp] theorem neD_int (a b : Int) : neD (.int a) (.int b) = some (.bl (!decide (a = b))) := by
  show (if (PyData.int a).depth ≤ 64 ∧ (PyData.int b).depth ≤ 64 then some (D.bl (!PyData.eqv (.int a) (.int b))) else none) = _
  rw [if_pos (by constructor <;> simp [PyData.depth])]
  show some (D.bl (!(a == b))) = _
  congr 2
@[simp] theorem eqD_bl (a b : Bool) : eqD (.bl a) (.bl b) = some (.bl (decide (a = b))) := by
  show (if (PyData.bool a).depth ≤ 64 ∧ (PyData.bool b).depth ≤ 64 then some (D.bl (PyData.eqv (.bool a) (.bool b))) else none) = _
  rw [if_pos (by constructor <;> simp [PyData.depth])]
  cases a <;> cases b <;> rfl
@[simp] theorem neD_bl (a b : Bool) : neD (.bl a) (.bl b) = some (.bl (!decide (a = b))) := by
  show (if (PyData.bool a).depth ≤ 64 ∧ (PyData.bool b).depth ≤ 64 then some (D.bl (!PyData.eqv (.bool a) (.bool b))) else none) = _
  rw [if_pos (by constructor <;> simp [PyData.depth])]
  cases a <;> cases b <;> rfl
@[simp] theorem eqD_lst (a b : List Int) : eqD (.lst (iL a)) (.lst (iL b)) = some (.bl (decide (a = b))) := by
  unfold eqD
  rw [toP, toP, toPs_iL, toPs_iL]
  show (if _ ∧ _ then some (D.bl (PyData.eqv (.list _) (.list _))) else none) = _
  rw [if_pos ⟨(depth_ints a).1, (depth_ints b).1⟩, PyData.eqv, eqvAll_ints]
@[simp] theorem eqD_tup (a b : List Int) : eqD (.tup (iL a)) (.tup (iL b)) = some (.bl (decide (a = b))) := by
  unfold eqD
  rw [toP, toP, toPs_iL, toPs_iL]
  show (if _ ∧ _ then some (D.bl (PyData.eqv (.tuple _) (.tuple _))) else none) = _
  rw [if_pos ⟨(depth_ints a).2, (depth_ints b).2⟩, PyData.eqv, eqvAll_ints]
@[simp] theorem neD_lst (a b : List Int) : neD (.lst (iL a)) (.lst (iL b)) = some (.bl (!decide (a = b))) := by
  unfold neD
  rw [toP, toP, toPs_iL, toPs_iL]
  show (if _ ∧ _ then some (D.bl (!PyData.eqv (.list _) (.list _))) else none) = _
  rw [if_pos ⟨(depth_ints a).1, (depth_ints b).1⟩, PyData.eqv, eqvAll_ints]
@[simp] theorem neD_tup (a b : List Int) : neD (.tup (iL a)) (.tup (iL b)) = some (.bl (!decide (a = b))) := by
  unfold neD
  rw [toP, toP, toPs_iL, toPs_iL]
  show (if _ ∧ _ then some (D.bl (!PyData.eqv (.tuple _) (.tuple _))) else none) = _
  rw [if_pos ⟨(depth_ints a).2, (depth_ints b).2⟩, PyData.eqv, eqvAll_ints]
/-! items -/
theorem atI_nat {α : Type} (l : List α) (i : Nat) : atI l (i : Int) = l[i]? := by
  unfold atI ixN
  rw [if_pos (by omega)]
  by_cases h : i < l.length
  · rw [if_pos (by omega)]; simp
  · rw [if_neg (by omega), List.getElem?_eq_none (by omega)]; rfl
@[simp] theorem idxD_lst (l : List D) (i : Int) : idxD (.lst l) (.int i) = atI l i := Eq.trans rfl rfl
@[simp] theorem idxD_tup (l : List D) (i : Int) : idxD (.tup l) (.int i) = atI l i := Eq.trans rfl rfl
@[simp] theorem idxD_scr (l : List Int) (i : Int) : idxD (.scr l) (.int i) = (atI l i).map .int := Eq.trans rfl rfl
@[simp] theorem atI_0 {α : Type} (a : α) (l : List α) : atI (a :: l) 0 = some a := by
  have := atI_nat (a :: l) 0; simpa using this
@[simp] theorem atI_1 {α : Type} (a b : α) (l : List α) : atI (a :: b :: l) 1 = some b := by
  have := atI_nat (a :: b :: l) 1; simpa using this
@[simp] theorem atI_2 {α : Type} (a b c : α) (l : List α) : atI (a :: b :: c :: l) 2 = some c := by
  have := atI_nat (a :: b :: c :: l) 2; simpa using this
@[simp] theorem atI_3 {α : Type} (a b c d : α) (l : List α) : atI (a :: b :: c :: d :: l) 3 = some d := by
  have := atI_nat (a :: b :: c :: d :: l) 3; simpa using this
theorem atI_get {α : Type} {l : List α} {i : Int} (h0 : 0 ≤ i) (h1 : i < l.length) (d : α) : atI l i = some (l.getD i.toNat d) := by
  obtain ⟨n, rfl⟩ := Int.eq_ofNat_of_zero_le h0
  have hn : n < l.length := by omega
  rw [atI_nat, List.getElem?_eq_getElem hn]
  simp [List.getD, hn]
theorem ixN_get {n : Nat} {i : Int} (h0 : 0 ≤ i) (h1 : i < n) : ixN n i = some i.toNat := by
  unfold ixN; rw [if_pos h0, if_pos (by omega)]
@[simp] theorem iL_length (l : List Int) : (iL l).length = l.length := by simp [iL]
theorem iL_getD (l : List Int) (n : Nat) : (iL l).getD n (.int 0) = .int (l.getD n 0) := by
  unfold iL; simp [List.getD]
/-- a row -/
def row (r : List Int) : D := .tup (iL r)
@[simp] theorem row_mk (r : List Int) : D.tup (r.map D.int) = row r := Eq.trans rfl rfl
/-- a row's entry in a slot, gone round -/
def atR (r : List Int) (x : Int) : Int := r.getD (x % (r.length : Int)).toNat 0
theorem idx_row {r : List Int} {i : Int} (h0 : 0 ≤ i) (h1 : i < r.length) : idxD (row r) (.int i) = some (.int (r.getD i.toNat 0)) := by
  show atI (iL r) i = _
  rw [atI_get h0 (by simpa using h1) (.int 0), iL_getD]
theorem idx_mod {r : List Int} {x : Int} (h : 0 < r.length) : idxD (row r) (.int (x % (r.length : Int))) = some (.int (atR r x)) :=
  idx_row (Int.emod_nonneg _ (by omega)) (Int.emod_lt_of_pos _ (by omega))
@[simp] theorem lenD_row (r : List Int) : lenD [row r] = some (.int r.length) := by
  show some (D.int (iL r).length) = _
  rw [iL_length]
@[simp] theorem eqD_row (a b : List Int) : eqD (row a) (row b) = some (.bl (decide (a = b))) := eqD_tup a b
@[simp] theorem neD_row (a b : List Int) : neD (row a) (row b) = some (.bl (!decide (a = b))) := neD_tup a b
@[simp] theorem isD1_row (t : Ty) (r : List Int) : isD1 t (row r) = some (.bl (decide (t = .tuple))) := Eq.trans rfl rfl
@[simp] theorem isD2_row (t u : Ty) (r : List Int) : isD2 t u (row r) = some (.bl (decide (t = .tuple) || decide (u = .tuple))) := Eq.trans rfl rfl
@[simp] theorem isN_row (r : List Int) : isN (row r) .non = some (.bl false) := Eq.trans rfl rfl
@[simp] theorem notN_row (r : List Int) : notN (row r) .non = some (.bl true) := Eq.trans rfl rfl
@[simp] theorem seqU_row {β : Type} (r : List Int) (k : List D → FR β) : seqU (row r) k = k (iL r) := Eq.trans rfl rfl
@[simp] theorem tupD_row (r : List Int) : tupD [row r] = some (row r) := Eq.trans rfl rfl
@[simp] theorem tupD_iL (r : List Int) : tupD [.lst (iL r)] = some (row r) := Eq.trans rfl rfl
@[simp] theorem listO_row (r : List Int) : listO [row r] = some (iL r) := Eq.trans rfl rfl
@[simp] theorem enU_row (r : List Int) : enU [row r] = some (enD (iL r) 0) := Eq.trans rfl rfl
/-- an int or None -/
def oI : Option Int → D
  | none => .non
  | some i => .int i
@[simp] theorem oI_none : oI none = .non := Eq.trans rfl rfl
@[simp] theorem oI_some (i : Int) : oI (some i) = .int i := Eq.trans rfl rfl
@[simp] theorem isN_oI (o : Option Int) : isN (oI o) .non = some (.bl o.isNone) := by cases o <;> rfl
@[simp] theorem notN_oI (o : Option Int) : notN (oI o) .non = some (.bl o.isSome) := by cases o <;> rfl
/-! in -/
theorem inV_int (i : Int) : ∀ l : List Int, inV (.int i) (l.map V.int) = decide (i ∈ l) := by
  intro l
  induction l with
  | nil => rfl
  | cons a l ih =>
    have e : inV (.int i) ((a :: l).map V.int) = ((a == i) || inV (.int i) (l.map V.int)) := rfl
    rw [e, ih]
    by_cases h : a = i
    · subst h; simp
    · have h' : ¬ i = a := fun z => h z.symm
      simp [h, h']
theorem flats_iL : ∀ l : List Int, flats (iL l) = some (l.map V.int)
  | [] => rfl
  | a :: l => by
    show (match flatD (.int a), flats (iL l) with
      | some v, some vs => some (v :: vs)
      | _, _ => none) = _
    rw [flats_iL l]; rfl
end DL

set_option Elab.async false
set_option linter.all false
set_option maxRecDepth 100000
set_option maxHeartbeats 1000000
/-! UM2: in, all, sums, comprehensions, loops, draws -/
namespace DL
open PySem PySem.Spec PyProof.Rows L2
@[simp] theorem inD_lst (i : Int) (l : List Int) : inD (.int i) (.lst (iL l)) = some (.bl (decide (i ∈ l))) := by
  show (match flatD (.int i), flats (iL l) with | some v, some vs => some (inV v vs) | _, _ => none : Option Bool).map D.bl = _
  rw [flats_iL]; show some (D.bl (inV (.int i) (l.map V.int))) = _; rw [inV_int]
@[simp] theorem inD_row (i : Int) (l : List Int) : inD (.int i) (row l) = some (.bl (decide (i ∈ l))) := inD_lst i l
@[simp] theorem ninD_lst (i : Int) (l : List Int) : ninD (.int i) (.lst (iL l)) = some (.bl (!decide (i ∈ l))) := by
  show (match flatD (.int i), flats (iL l) with | some v, some vs => some (inV v vs) | _, _ => none : Option Bool).map (fun b => D.bl (!b)) = _
  rw [flats_iL]; show some (D.bl (!inV (.int i) (l.map V.int))) = _; rw [inV_int]
@[simp] theorem ninD_row (i : Int) (l : List Int) : ninD (.int i) (row l) = some (.bl (!decide (i ∈ l))) := ninD_lst i l
@[simp] theorem inD_oI (c : Option Int) (x : Int) : inD (oI c) (.tup [.non, .int x]) = some (.bl (decide (c = none ∨ c = some x))) := by
  cases c with
  | none => show some (D.bl (inV .non [.non, .int x])) = _; rfl
  | some i =>
    show some (D.bl (inV (.int i) [.non, .int x])) = _
    have e : inV (.int i) [.non, .int x] = (false || ((x == i) || false)) := rfl
    rw [e]
    by_cases h : x = i
    · subst h; simp
    · have : ¬ i = x := fun z => h z.symm
      simp [h, this]
@[simp] theorem inD_non (x : Int) : inD .non (.tup [.non, .int x]) = some (.bl true) := Eq.trans rfl rfl
/-! all, any, sum, least, greatest -/
theorem unB_map {α : Type} (p : α → Bool) : ∀ l : List α, unB (l.map fun x => D.bl (p x)) = some (l.map p)
  | [] => rfl
  | x :: l => by
    show (unB (l.map fun x => D.bl (p x))).map (p x :: ·) = _
    rw [unB_map p l]; rfl
@[simp] theorem allD_map {α : Type} (p : α → Bool) (l : List α) : allD [.lst (l.map fun x => D.bl (p x))] = some (.bl (l.all p)) := by
  show (unB _).map _ = _
  rw [unB_map, Option.map_some, List.all_map]; rfl
@[simp] theorem anyD_map {α : Type} (p : α → Bool) (l : List α) : anyD [.lst (l.map fun x => D.bl (p x))] = some (.bl (l.any p)) := by
  show (unB _).map _ = _
  rw [unB_map, Option.map_some, List.any_map]; rfl
theorem all_true {α : Type} (l : List α) : l.all (fun _ => true) = true := List.all_eq_true.mpr fun _ _ => rfl
@[simp] theorem allD_true {α : Type} (l : List α) : allD [.lst (l.map fun _ => D.bl true)] = some (.bl true) := by rw [allD_map (fun _ => true) l, all_true]
@[simp] theorem allD_nil : allD [.lst []] = some (.bl true) := Eq.trans rfl rfl
@[simp] theorem anyD_nil : anyD [.lst []] = some (.bl false) := Eq.trans rfl rfl
theorem unI_map {α : Type} (f : α → Int) (l : List α) : unI (l.map fun x => D.int (f x)) = some (l.map f) := by
  have := unI_iL (l.map f); unfold iL at this; rwa [List.map_map] at this
@[simp] theorem sumD_iL (l : List Int) : sumD [.lst (iL l)] = some (.int l.sum) := by show (unI _).map _ = _; rw [unI_iL]; rfl
@[simp] theorem sumD_map {α : Type} (f : α → Int) (l : List α) : sumD [.lst (l.map fun x => D.int (f x))] = some (.int (l.map f).sum) := by show (unI _).map _ = _; rw [unI_map]; rfl
theorem maxL_iL {l : List Int} (h : l ≠ []) : maxL [.lst (iL l)] = some (.int (mxI l)) := by
  show (unI _).bind _ = _; rw [unI_iL]; exact if_pos (List.length_pos_iff.mpr h)
theorem minL_iL {l : List Int} (h : l ≠ []) : minL [.lst (iL l)] = some (.int (mnI l)) := by
  show (unI _).bind _ = _; rw [unI_iL]; exact if_pos (List.length_pos_iff.mpr h)
theorem foldl_max (l : List Int) : ∀ a : Int, a ≤ l.foldl max a ∧ (∀ x ∈ l, x ≤ l.foldl max a) ∧ (l.foldl max a = a ∨ l.foldl max a ∈ l) := by
  induction l with
  | nil => exact fun a => ⟨Int.le_refl a, fun _ h => (by cases h), .inl rfl⟩
  | cons b l ih =>
    intro a
    obtain ⟨h1, h2, h3⟩ := ih (max a b)
    refine ⟨by rw [List.foldl_cons]; omega, fun x hx => ?_, ?_⟩
    · rw [List.foldl_cons]
      rcases List.mem_cons.mp hx with rfl | hx
      · omega
      · exact h2 x hx
    · rw [List.foldl_cons]
      rcases h3 with h3 | h3
      · by_cases hb : b ≤ a
        · exact .inl (by rw [h3]; omega)
        · exact .inr (by rw [h3]; exact List.mem_cons.mpr (.inl (by omega)))
      · exact .inr (List.mem_cons_of_mem _ h3)
theorem foldl_min (l : List Int) : ∀ a : Int, l.foldl min a ≤ a ∧ (∀ x ∈ l, l.foldl min a ≤ x) ∧ (l.foldl min a = a ∨ l.foldl min a ∈ l) := by
  induction l with
  | nil => exact fun a => ⟨Int.le_refl a, fun _ h => (by cases h), .inl rfl⟩
  | cons b l ih =>
    intro a
    obtain ⟨h1, h2, h3⟩ := ih (min a b)
    refine ⟨by rw [List.foldl_cons]; omega, fun x hx => ?_, ?_⟩
    · rw [List.foldl_cons]
      rcases List.mem_cons.mp hx with rfl | hx
      · omega
      · exact h2 x hx
    · rw [List.foldl_cons]
      rcases h3 with h3 | h3
      · by_cases hb : a ≤ b
        · exact .inl (by rw [h3]; omega)
        · exact .inr (by rw [h3]; exact List.mem_cons.mpr (.inl (by omega)))
      · exact .inr (List.mem_cons_of_mem _ h3)
theorem mxI_mem {l : List Int} (h : l ≠ []) : mxI l ∈ l := by
  cases l with
  | nil => exact (h rfl).elim
  | cons a l =>
    unfold mxI
    rcases (foldl_max (a :: l) a).2.2 with e | e
    · show (a :: l).foldl max a ∈ _; rw [e]; exact List.mem_cons_self
    · exact e
theorem mxI_le {l : List Int} {x : Int} (h : x ∈ l) : x ≤ mxI l := (foldl_max l _).2.1 x h
theorem mnI_mem {l : List Int} (h : l ≠ []) : mnI l ∈ l := by
  cases l with
  | nil => exact (h rfl).elim
  | cons a l =>
    unfold mnI
    rcases (foldl_min (a :: l) a).2.2 with e | e
    · show (a :: l).foldl min a ∈ _; rw [e]; exact List.mem_cons_self
    · exact e
theorem mnI_le {l : List Int} {x : Int} (h : x ∈ l) : mnI l ≤ x := (foldl_min l _).2.1 x h
/-- least = greatest: all alike -/
theorem mn_eq_mx {l : List Int} (h : l ≠ []) : mnI l = mxI l ↔ ∀ x ∈ l, ∀ y ∈ l, x = y := by
  constructor
  · intro e x hx y hy
    have := mxI_le hx; have := mnI_le hx; have := mxI_le hy; have := mnI_le hy; omega
  · intro e; exact e _ (mnI_mem h) _ (mxI_mem h)
@[simp] theorem sortO_iL (l : List Int) : sortO [.lst (iL l)] = some (iL (srtI l)) := by show (unI _).map _ = _; rw [unI_iL]; rfl
/-! items -/
theorem rg1_nat {n : Nat} (h : n ≤ 1000000000000) : rg1 [.int n] = some ((List.range n).map fun (i : Nat) => D.int i) := by
  show (if small (n : Int) then some (rgD 0 (n : Int).toNat) else none) = _
  rw [if_pos (by unfold small; omega)]
  unfold rgD; simp
theorem enD_eq (l : List D) : ∀ n : Nat, enD l n = (l.zipIdx n).map fun p => D.tup [.int p.2, p.1] := by
  induction l with
  | nil => intro n; rfl
  | cons a l ih => intro n; rw [List.zipIdx_cons, List.map_cons, ← ih]; rfl
theorem enD_map {α : Type} (f : α → D) (l : List α) : enD (l.map f) 0 = l.zipIdx.map fun p => D.tup [.int p.2, f p.1] := by
  rw [enD_eq, List.zipIdx_map, List.map_map]; rfl
theorem zpD_map {α β : Type} (f : α → D) (g : β → D) : ∀ (l : List α) (m : List β), zpD (l.map f) (m.map g) = (l.zip m).map fun p => D.tup [f p.1, g p.2]
  | [], _ => by cases ‹List β› <;> rfl
  | _ :: _, [] => rfl
  | a :: l, b :: m => by show _ :: zpD (l.map f) (m.map g) = _; rw [zpD_map f g l m]; rfl
/-! comprehensions, loops over items l.map g -/
section
variable {α β σ τ : Type} {l : List α} {g h : α → D}
theorem mapU_ok {f : D → FR D} : ∀ {l : List α}, (∀ x ∈ l, f (g x) = .ok (h x)) → mapU f (l.map g) = .ok (l.map h)
  | [], _ => rfl
  | x :: l, H => by
    unfold mapU; rw [List.map_cons]
    show (f (g x)).bindN _ = _
    rw [H x List.mem_cons_self, FR.bindN_ok, mapU_ok fun y hy => H y (List.mem_cons_of_mem _ hy)]; rfl
theorem lcU_ok {f : D → FR D} (hl : l.length ≤ 1000000) (H : ∀ x ∈ l, f (g x) = .ok (h x)) : lcU f (l.map g) = .ok (l.map h) := by
  unfold lcU; rw [if_pos (by rw [List.length_map]; exact hl), mapU_ok H]
theorem lcU_lit1 {f : D → FR D} {a x : D} (ha : f a = .ok x) : lcU f [a] = .ok [x] := by simp [lcU, mapU, ha]
theorem lcU_lit2 {f : D → FR D} {a b x y : D} (ha : f a = .ok x) (hb : f b = .ok y) : lcU f [a, b] = .ok [x, y] := by simp [lcU, mapU, ha, hb]
theorem lcU_lit3 {f : D → FR D} {a b c x y z : D} (ha : f a = .ok x) (hb : f b = .ok y) (hc : f c = .ok z) : lcU f [a, b, c] = .ok [x, y, z] := by simp [lcU, mapU, ha, hb, hc]
theorem lcU_lit4 {f : D → FR D} {a b c d x y z w : D} (ha : f a = .ok x) (hb : f b = .ok y) (hc : f c = .ok z) (hd : f d = .ok w) : lcU f [a, b, c, d] = .ok [x, y, z, w] := by simp [lcU, mapU, ha, hb, hc, hd]
theorem filU_ok {f : D → FR (Option D)} {P : α → Bool} : ∀ {l : List α}, (∀ x ∈ l, f (g x) = .ok (if P x = true then some (h x) else none)) → filU f (l.map g) = .ok ((l.filter P).map h)
  | [], _ => rfl
  | x :: l, H => by
    rw [List.map_cons]; unfold filU
    rw [H x List.mem_cons_self, FR.bindN_ok, filU_ok fun y hy => H y (List.mem_cons_of_mem _ hy)]
    by_cases hp : P x = true
    · rw [if_pos hp, List.filter_cons_of_pos hp]; rfl
    · rw [if_neg hp, List.filter_cons_of_neg hp]; rfl
theorem lcF_ok {f : D → FR (Option D)} (P : α → Bool) (hl : l.length ≤ 1000000) (H : ∀ x ∈ l, f (g x) = .ok (if P x = true then some (h x) else none)) : lcF f (l.map g) = .ok ((l.filter P).map h) := by
  unfold lcF; rw [if_pos (by rw [List.length_map]; exact hl), filU_ok H]
theorem findU_ok {f : D → FR (Option β)} {p : α → Option β} : ∀ {l : List α}, (∀ x ∈ l, f (g x) = .ok (p x)) → findU f (l.map g) = .ok (l.findSome? p)
  | [], _ => rfl
  | x :: l, H => by
    rw [List.map_cons]; unfold findU
    rw [H x List.mem_cons_self, FR.bind_ok, List.findSome?_cons]
    cases p x with
    | some b => rfl
    | none => exact findU_ok fun y hy => H y (List.mem_cons_of_mem _ hy)
theorem foldU_ok {f : D → σ → FR σ} {e : τ → σ} {step : τ → α → τ} (I : τ → Prop) : ∀ {l : List α} {t : τ}, I t → (∀ x ∈ l, ∀ t, I t → f (g x) (e t) = .ok (e (step t x)) ∧ I (step t x)) → foldU f (l.map g) (e t) = .ok (e (l.foldl step t)) ∧ I (l.foldl step t)
  | [], t, hI, _ => ⟨rfl, hI⟩
  | x :: l, t, hI, H => by
    rw [List.map_cons]; unfold foldU
    obtain ⟨h1, h2⟩ := H x List.mem_cons_self t hI
    rw [h1, FR.bind_ok]
    exact foldU_ok I h2 fun y hy t ht => H y (List.mem_cons_of_mem _ hy) t ht
end
/-- a box from which so many draws may be taken -/
def OkT (t : List D) (k : Nat) : Prop := ∃ a b c : Int, t = [.int a, .int b, .int c] ∧ 0 ≤ c ∧ c + k ≤ 1000000000
theorem OkT.mono {t : List D} {k j : Nat} (h : OkT t k) (l : j ≤ k) : OkT t j := by
  obtain ⟨a, b, c, e, h1, h2⟩ := h; exact ⟨a, b, c, e, h1, by omega⟩
/-- a comprehension of draws: k each turn -/
theorem mapT_ok {α : Type} {g : α → D} {f : D → List D → FR (D × List D)} {Q : α → D → Prop} (c : Nat) : ∀ (l : List α) (k : Nat) (t : List D), OkT t (k + l.length * c) → (∀ x ∈ l, ∀ k t, OkT t (k + c) → ∃ v t', f (g x) t = .ok (v, t') ∧ Q x v ∧ OkT t' k) →
    ∃ vs t', mapT f (l.map g) t = .ok (vs, t') ∧ vs.length = l.length ∧ (∀ p ∈ l.zip vs, Q p.1 p.2) ∧ OkT t' k
  | [], k, t, h, _ => ⟨[], t, rfl, rfl, fun _ h => (by cases h), by simpa using h⟩
  | x :: l, k, t, h, H => by
    rw [List.length_cons, Nat.add_mul, Nat.one_mul, ← Nat.add_assoc] at h
    obtain ⟨v, t1, e1, q1, h1⟩ := H x List.mem_cons_self _ t h
    obtain ⟨vs, t2, e2, l2, q2, h2⟩ := mapT_ok c l k t1 h1 fun y hy => H y (List.mem_cons_of_mem _ hy)
    refine ⟨v :: vs, t2, ?_, by rw [List.length_cons, List.length_cons, l2], ?_, h2⟩
    · rw [List.map_cons]; unfold mapT; rw [e1]; show (mapT f (l.map g) t1).bindN _ = _; rw [e2]; rfl
    · intro p hp
      rw [List.zip_cons_cons] at hp
      rcases List.mem_cons.mp hp with rfl | hp
      · exact q1
      · exact q2 p hp
/-- all of one kind -/
theorem lcT_ok {α β : Type} {g : α → D} {e : β → D} {f : D → List D → FR (D × List D)} (Q : β → Prop) (c : Nat) (l : List α) (k : Nat) {t : List D} (hl : l.length ≤ 1000000) (h : OkT t (k + l.length * c)) (H : ∀ x ∈ l, ∀ k t, OkT t (k + c) → ∃ v t', f (g x) t = .ok (e v, t') ∧ Q v ∧ OkT t' k) :
    ∃ (vs : List β) (t' : List D), lcT f (l.map g) t = .ok (vs.map e, t') ∧ vs.length = l.length ∧ (∀ v ∈ vs, Q v) ∧ OkT t' k := by
  unfold lcT
  rw [if_pos (by rw [List.length_map]; exact hl)]
  clear hl
  induction l generalizing t with
  | nil => exact ⟨[], t, rfl, rfl, fun _ h => (by cases h), by simpa using h⟩
  | cons x l ih =>
    rw [List.length_cons, Nat.add_mul, Nat.one_mul, ← Nat.add_assoc] at h
    obtain ⟨v, t1, e1, q1, h1⟩ := H x List.mem_cons_self _ t h
    obtain ⟨vs, t2, e2, l2, q2, h2⟩ := ih h1 fun y hy => H y (List.mem_cons_of_mem _ hy)
    refine ⟨v :: vs, t2, ?_, by rw [List.length_cons, List.length_cons, l2], ?_, h2⟩
    · rw [List.map_cons]; unfold mapT; rw [e1]; show (mapT f (l.map g) t1).bindN _ = _; rw [e2]; rfl
    · intro p hp
      rcases List.mem_cons.mp hp with rfl | hp
      · exact q1
      · exact q2 p hp
/-- with a test that draws -/
theorem lcFT_ok {α β : Type} {g : α → D} {e : β → D} {f : D → List D → FR (Option D × List D)} (R : α → β → Prop) (c : Nat) (l : List α) (k : Nat) {t : List D} (hl : l.length ≤ 1000000) (h : OkT t (k + l.length * c)) (H : ∀ x ∈ l, ∀ k t, OkT t (k + c) → ∃ (v : Option β) (t' : List D), f (g x) t = .ok (v.map e, t') ∧ (∀ w, v = some w → R x w) ∧ OkT t' k) :
    ∃ (vs : List (Option β)) (t' : List D), lcFT f (l.map g) t = .ok ((vs.filterMap id).map e, t') ∧ vs.length = l.length ∧ (∀ p ∈ l.zip vs, ∀ w, p.2 = some w → R p.1 w) ∧ OkT t' k := by
  unfold lcFT
  rw [if_pos (by rw [List.length_map]; exact hl)]
  clear hl
  induction l generalizing t with
  | nil => exact ⟨[], t, rfl, rfl, fun _ h => (by cases h), by simpa using h⟩
  | cons x l ih =>
    rw [List.length_cons, Nat.add_mul, Nat.one_mul, ← Nat.add_assoc] at h
    obtain ⟨v, t1, e1, q1, h1⟩ := H x List.mem_cons_self _ t h
    obtain ⟨vs, t2, e2, l2, q2, h2⟩ := ih h1 fun y hy => H y (List.mem_cons_of_mem _ hy)
    refine ⟨v :: vs, t2, ?_, by rw [List.length_cons, List.length_cons, l2], ?_, h2⟩
    · rw [List.map_cons]; unfold filT; rw [e1]; show (filT f (l.map g) t1).bindN _ = _; rw [e2]
      cases v <;> rfl
    · intro p hp
      rw [List.zip_cons_cons] at hp
      rcases List.mem_cons.mp hp with rfl | hp
      · exact q1
      · exact q2 p hp
end DL


set_option Elab.async false
set_option linter.all false
/-! NT: numbers -/
namespace NT
theorem bez (a b : Nat) : ∃ u v : Int, (a : Int) * u + (b : Int) * v = ((Nat.gcd a b : Nat) : Int) := by
  refine Nat.gcd.induction (P := fun a b => ∃ u v : Int, (a : Int) * u + (b : Int) * v = ((Nat.gcd a b : Nat) : Int)) a b (fun n => ⟨0, 1, by simp⟩) fun m n hm ih => ?_
  obtain ⟨u, v, e⟩ := ih
  refine ⟨v - (n / m : Nat) * u, u, ?_⟩
  rw [Nat.gcd_rec m n, ← e]
  have h : (n : Int) = (m : Int) * ((n / m : Nat) : Int) + ((n % m : Nat) : Int) := by
    have := Nat.div_add_mod n m
    exact_mod_cast this.symm
  generalize ((n / m : Nat) : Int) = q at *
  generalize ((n % m : Nat) : Int) = r at *
  rw [h, Int.mul_sub, Int.add_mul]
  have : (m : Int) * (q * u) = (m : Int) * q * u := by rw [Int.mul_assoc]
  omega
theorem inv_exists {a n : Nat} (hn : 0 < n) (h : Nat.gcd a n = 1) : ∃ x, x < n ∧ x * a % n = 1 % n := by
  obtain ⟨u, v, e⟩ := bez a n
  rw [h] at e
  have hn' : (n : Int) ≠ 0 := by omega
  refine ⟨(u % n).toNat, ?_, ?_⟩
  · have h1 := Int.emod_nonneg u hn'
    have h2 := Int.emod_lt_of_pos u (show (0 : Int) < n by omega)
    omega
  · have h1 := Int.emod_nonneg u hn'
    have e2 : (((u % n).toNat : Nat) : Int) = u % n := Int.toNat_of_nonneg h1
    have key : (u % n) * (a : Int) % n = 1 % n := by
      rw [Int.mul_emod, Int.emod_emod_of_dvd _ (Int.dvd_refl _), ← Int.mul_emod]
      have e3 : u * (a : Int) = 1 + (n : Int) * (-v) := by
        rw [Int.mul_comm u, Int.mul_neg]
        have : ((1 : Nat) : Int) = 1 := rfl
        omega
      rw [e3, Int.add_mul_emod_self_left]
    have : (((u % n).toNat * a % n : Nat) : Int) = ((1 % n : Nat) : Int) := by
      rw [Int.natCast_emod, Int.natCast_mul, e2, Int.natCast_emod]
      exact key
    exact_mod_cast this
end NT

set_option Elab.async false
set_option linter.all false
set_option maxRecDepth 100000
set_option maxHeartbeats 1000000
/-! PS1: what the program's small functions answer -/
namespace WK
open PySem PySem.Spec PyProof.Rows L2 DL
@[simp] theorem is_number_int (a : Int) : U_is_number (.int a) = .ok (.bl true) := rfl
@[simp] theorem is_number_bl (a : Bool) : U_is_number (.bl a) = .ok (.bl false) := rfl
@[simp] theorem is_within_int (a lo hi : Int) : U_is_within (.int a) (.int lo) (.int hi) = .ok (.bl (decide (lo ≤ a ∧ a ≤ hi))) := by
  unfold U_is_within
  by_cases h : lo ≤ a <;> simp [h]
theorem sure_within_ok {a lo hi : Int} (h1 : lo ≤ a) (h2 : a ≤ hi) : U_sure_within (.int a) (.int lo) (.int hi) = .ok (.int a) := by
  unfold U_sure_within; simp [h1, h2]
theorem sure_within_no {a lo hi : Int} (h : ¬ (lo ≤ a ∧ a ≤ hi)) : U_sure_within (.int a) (.int lo) (.int hi) = .er "Unfit" := by
  unfold U_sure_within; simp only [is_within_int, FR.bind_ok, boolU_bl, decide_eq_false h]; rfl
theorem sure_round_ok {a : Int} (h1 : 1 ≤ a) (h2 : a ≤ 400) : U_sure_round (.int a) = .ok (.int a) := by
  unfold U_sure_round; rw [sure_within_ok h1 h2]; rfl
theorem sure_channel_ok {a : Int} (h1 : 0 ≤ a) (h2 : a ≤ 30) : U_sure_channel (.int a) = .ok (.int a) := by
  unfold U_sure_channel; rw [sure_within_ok h1 h2]; rfl
@[simp] theorem is_long_tup (l : List D) (n : Int) : U_is_long (.tup l) (.int n) = .ok (.bl (decide ((l.length : Int) = n))) := by
  unfold U_is_long; simp
@[simp] theorem is_long_row (l : List Int) (n : Int) : U_is_long (row l) (.int n) = .ok (.bl (decide ((l.length : Int) = n))) := by
  unfold U_is_long; simp
/-! draws -/
theorem take_a {x y c b : Int} (hx : 0 < x) (b1 : 1 ≤ b) (b2 : b < 1073741824) : U__law_take [.int x, .int y, .int c] (.int b) = .ok (.int (x % b), [.int (x / b), .int y, .int c]) := by
  have e1 : modD (.int x) (.int b) = some (.int (x % b)) := modD_int (by omega)
  have e2 : fdivD (.int x) (.int b) = some (.int (x / b)) := fdivD_int (by omega) b2
  have e3 : decide (0 < x) = true := decide_eq_true hx
  unfold U__law_take
  simp only [idxD_lst, atI_0, o2f_some, FR.bind_ok, cmI_int, boolU_bl, e3, cond_true, intD_int, e1, e2]
  rfl
theorem take_b {x y c b : Int} (hx : ¬ 0 < x) (b1 : 1 ≤ b) (c1 : 0 ≤ c) (c2 : c < 1000000000) : ∃ X : Int, U__law_take [.int x, .int y, .int c] (.int b) = .ok (.int (X % b), [.int x, .int y, .int (c + 1)]) := by
  have e0 : ∀ i : Int, modD (.int i) (.int b) = some (.int (i % b)) := fun i => modD_int (by omega)
  have e3 : decide (0 < x) = false := decide_eq_false hx
  have p1 : ∀ d : D, putU [.int x, .int y, .int c] (.int 2) d = .ok [.int x, .int y, d] := fun d => rfl
  have m1 : mulD (.int 48271) (.int (c + 1)) = some (.int (48271 * (c + 1))) := mulD_l (by omega) (by omega)
  have m2 : ∀ i, mulD (.int i) (.int (39373 + (c + 1))) = some (.int (i * (39373 + (c + 1)))) := fun i => mulD_r (by omega) (by omega)
  have d1 : ∀ i, modD (.int i) (.int 2147483647) = some (.int (i % 2147483647)) := fun i => modD_int (by omega)
  have d2 : ∀ i, modD (.int i) (.int 40009) = some (.int (i % 40009)) := fun i => modD_int (by omega)
  have d3 : ∀ i, fdivD (.int i) (.int 1000003) = some (.int (i / 1000003)) := fun i => fdivD_int (by omega) (by omega)
  have m3 : ∀ i j, mulD (.int i) (.int (j % 40009 + 7)) = some (.int (i * (j % 40009 + 7))) := fun i j => mulD_r (by omega) (by omega)
  have d4 : ∀ i, modD (.int i) (.int 2147483629) = some (.int (i % 2147483629)) := fun i => modD_int (by omega)
  have m4 : ∀ i, mulD (.int i) (.int 48271) = some (.int (i * 48271)) := fun i => mulD_r (by omega) (by omega)
  have d5 : ∀ i, modD (.int i) (.int 2147483587) = some (.int (i % 2147483587)) := fun i => modD_int (by omega)
  have d6 : ∀ i, fdivD (.int i) (.int 64) = some (.int (i / 64)) := fun i => fdivD_int (by omega) (by omega)
  apply Exists.intro
  unfold U__law_take
  simp only [idxD_lst, atI_0, o2f_some, FR.bind_ok, cmI_int, boolU_bl, e3, cond_false, atI_2, addD_int, p1, atI_1, m1, m2, intD_int, d1, d2, d3, m3, d4, m4, d5, d6, e0]
  rfl
theorem take_ok {t : List D} {b : Int} {k : Nat} (h : OkT t (k + 1)) (b1 : 1 ≤ b) (b2 : b < 1073741824) : ∃ (r : Int) (t' : List D), U__law_take t (.int b) = .ok (.int r, t') ∧ 0 ≤ r ∧ r < b ∧ OkT t' k := by
  obtain ⟨x, y, c, rfl, hc, hk⟩ := h
  by_cases hx : 0 < x
  · exact ⟨x % b, _, take_a hx b1 b2, Int.emod_nonneg _ (by omega), Int.emod_lt_of_pos _ (by omega), _, _, _, rfl, hc, by omega⟩
  · obtain ⟨X, e⟩ := take_b (y := y) hx b1 hc (by omega)
    exact ⟨X % b, _, e, Int.emod_nonneg _ (by omega), Int.emod_lt_of_pos _ (by omega), _, _, _, rfl, by omega, by omega⟩
end WK

set_option Elab.async false
set_option linter.all false
set_option maxRecDepth 100000
set_option maxHeartbeats 1000000
/-! PS2: common, tupled, same, rows -/
namespace WK
open PySem PySem.Spec PyProof.Rows L2 DL
theorem whileU_gcd {β : Type} {f : D × D → FR (Lo (D × D) β)} (h0 : ∀ a : Nat, f (.int a, .int 0) = .ok (.bk (.int a, .int 0))) (h1 : ∀ a b : Nat, b ≠ 0 → f (.int a, .int b) = .ok (.nx (.int b, .int ((a % b : Nat) : Int)))) :
    ∀ (n b a : Nat), b < n → whileU f n (.int a, .int b) = .ok (.inl (.int (Nat.gcd a b : Nat), .int 0))
  | 0, _, _, h => by omega
  | n + 1, b, a, h => by
    unfold whileU
    by_cases hb : b = 0
    · subst hb
      have := h0 a
      rw [show ((0 : Nat) : Int) = 0 from rfl, this, Nat.gcd_zero_right]; rfl
    · rw [h1 a b hb, FR.bind_ok]
      have : a % b < b := Nat.mod_lt _ (by omega)
      show whileU f n _ = _
      rw [whileU_gcd h0 h1 n (a % b) b (by omega), Nat.gcd_comm a b, Nat.gcd_rec b a, Nat.gcd_comm]
theorem common_nat (a b : Nat) (h : b < 100000) : U_common (.int a) (.int b) = .ok (.int (Nat.gcd a b : Nat)) := by
  unfold U_common
  have ea : ¬ ((a : Int) < 0) := by omega
  have eb : ¬ ((b : Int) < 0) := by omega
  simp only [absD_int, ea, eb, if_false, o2f_some, FR.bind_ok]
  rw [whileU_gcd (fun a => by simp) (fun a b hb => by
    have : 0 < (b : Int) := by omega
    simp [modD_int this, hb]) 100000 b a h]
  rfl
theorem lcm_div (m n : Nat) : m / Nat.gcd m n * n = Nat.lcm m n := by
  unfold Nat.lcm
  rw [Nat.mul_comm m n, Nat.mul_div_assoc n (Nat.gcd_dvd_left m n), Nat.mul_comm]
theorem lcm_cast (m n : Nat) : (m : Int) / ((Nat.gcd m n : Nat) : Int) * (n : Int) = ((Nat.lcm m n : Nat) : Int) := by
  rw [← lcm_div, Int.natCast_mul, Int.natCast_ediv]
theorem lcm_ops {m n : Nat} (hm : 0 < m) (hn : 0 < n) (h2 : n < 1000000) : ∃ q : Int, fdivD (.int m) (.int (Nat.gcd m n : Nat)) = some (.int q) ∧ mulD (.int q) (.int n) = some (.int (Nat.lcm m n : Nat)) := by
  have hg : 0 < Nat.gcd m n := Nat.gcd_pos_of_pos_left _ hm
  have hg2 : Nat.gcd m n ≤ n := Nat.gcd_le_right _ hn
  refine ⟨_, fdivD_int (by omega) (by omega), ?_⟩
  rw [mulD_r (by omega) (by omega), lcm_cast]
theorem together_ok {r q : List Int} (hr : 0 < r.length) (hq : 0 < q.length) (h1 : q.length < 100000) : U_together_in (row r) (row q) = .ok (.int (Nat.lcm r.length q.length : Nat)) := by
  obtain ⟨x, e1, e2⟩ := lcm_ops hr hq (by omega)
  unfold U_together_in
  simp [common_nat _ _ h1, e1, e2]
/-! tupled -/
mutual
def tupS : D → D
  | .lst l => .tup (tupSs l)
  | .tup l => .tup (tupSs l)
  | d => d
def tupSs : List D → List D
  | [] => []
  | d :: l => tupS d :: tupSs l
end
theorem tupSs_map : ∀ l : List D, tupSs l = l.map tupS
  | [] => rfl
  | d :: l => by show tupS d :: tupSs l = _; rw [tupSs_map l]; rfl
@[simp] theorem tupS_lst (l : List D) : tupS (.lst l) = .tup (l.map tupS) := by show D.tup (tupSs l) = _; rw [tupSs_map]
@[simp] theorem tupS_tup (l : List D) : tupS (.tup l) = .tup (l.map tupS) := by show D.tup (tupSs l) = _; rw [tupSs_map]
@[simp] theorem tupS_int (i : Int) : tupS (.int i) = .int i := Eq.trans rfl rfl
@[simp] theorem tupS_bl (i : Bool) : tupS (.bl i) = .bl i := Eq.trans rfl rfl
@[simp] theorem tupS_non : tupS .non = .non := Eq.trans rfl rfl
@[simp] theorem tupS_str (i : Str) : tupS (.str i) = .str i := Eq.trans rfl rfl
/-- plain data, not too deep -/
def fitT : Nat → D → Prop
  | _ + 1, .int _ => True
  | _ + 1, .bl _ => True
  | _ + 1, .non => True
  | _ + 1, .str _ => True
  | n + 1, .lst l => l.length ≤ 1000000 ∧ ∀ x ∈ l, fitT n x
  | n + 1, .tup l => l.length ≤ 1000000 ∧ ∀ x ∈ l, fitT n x
  | _, _ => False
theorem tupled_ur : ∀ (n : Nat) (d : D), fitT n d → UR_tupled n [d] = .ok (tupS d)
  | 0, d, h => by cases d <;> exact h.elim
  | n + 1, d, h => by
    show W_tupled (UR_tupled n) d = _
    unfold W_tupled
    cases d with
    | int i => simp
    | bl b => simp
    | non => simp
    | str x => simp
    | lst l =>
      obtain ⟨h1, h2⟩ := h
      have e : lcU (fun own => ((UR_tupled n [own])).bind fun z_2 => .ok z_2) (l.map id) = .ok (l.map tupS) := lcU_ok h1 fun x hx => by rw [FR.bind_pure]; exact tupled_ur n x (h2 x hx)
      rw [List.map_id] at e
      simp only [isD2_lst, o2f_some, FR.bind_ok, boolU_bl, seqU_lst, e, tupD_lst, tupS_lst]
      rfl
    | tup l =>
      obtain ⟨h1, h2⟩ := h
      have e : lcU (fun own => ((UR_tupled n [own])).bind fun z_2 => .ok z_2) (l.map id) = .ok (l.map tupS) := lcU_ok h1 fun x hx => by rw [FR.bind_pure]; exact tupled_ur n x (h2 x hx)
      rw [List.map_id] at e
      simp only [isD2_tup, o2f_some, FR.bind_ok, boolU_bl, seqU_tup, e, tupD_lst, tupS_tup]
      rfl
    | dic => exact h.elim
    | fn => exact h.elim
    | scr => exact h.elim
theorem tupled_ok {d : D} (h : fitT 10 d) : U_tupled d = .ok (tupS d) := tupled_ur 10 d h
@[simp] theorem fitT_int (n : Nat) (i : Int) : fitT (n + 1) (.int i) := trivial
@[simp] theorem fitT_bl (n : Nat) (i : Bool) : fitT (n + 1) (.bl i) := trivial
@[simp] theorem fitT_str (n : Nat) (i : Str) : fitT (n + 1) (.str i) := trivial
@[simp] theorem fitT_non (n : Nat) : fitT (n + 1) .non := trivial
theorem fitT_lst {n : Nat} {l : List D} : fitT (n + 1) (.lst l) ↔ l.length ≤ 1000000 ∧ ∀ x ∈ l, fitT n x := Iff.rfl
theorem fitT_tup {n : Nat} {l : List D} : fitT (n + 1) (.tup l) ↔ l.length ≤ 1000000 ∧ ∀ x ∈ l, fitT n x := Iff.rfl
theorem fitT_row {n : Nat} {r : List Int} (h : r.length ≤ 1000000) : fitT (n + 2) (row r) := by
  refine ⟨by simpa using h, fun x hx => ?_⟩
  obtain ⟨a, _, rfl⟩ := List.mem_map.mp hx
  trivial
theorem fitT_liL {n : Nat} {r : List Int} (h : r.length ≤ 1000000) : fitT (n + 2) (.lst (iL r)) := fitT_row (n := n) h
@[simp] theorem tupS_iL (r : List Int) : (iL r).map tupS = iL r := by unfold iL; rw [List.map_map]; rfl
@[simp] theorem tupS_row (r : List Int) : tupS (row r) = row r := by unfold row; rw [tupS_tup, tupS_iL]
@[simp] theorem tupS_liL (r : List Int) : tupS (.lst (iL r)) = row r := by rw [tupS_lst, tupS_iL]; rfl
@[simp] theorem tupS_oI (o : Option Int) : tupS (oI o) = oI o := by cases o <;> rfl
/-! same -/
def fitS : Nat → D → Prop
  | _ + 1, .int _ => True
  | _ + 1, .bl _ => True
  | _ + 1, .non => True
  | _ + 1, .str x => PySem.PyData.strOk x = true
  | n + 1, .lst l => l.length ≤ 1000000 ∧ ∀ x ∈ l, fitS n x
  | n + 1, .tup l => l.length ≤ 1000000 ∧ ∀ x ∈ l, fitS n x
  | _, _ => False
theorem zpD_self (l : List D) : zpD l l = l.map fun x => D.tup [x, x] := by
  induction l with
  | nil => rfl
  | cons a l ih => show _ :: zpD l l = _; rw [ih]; rfl
theorem eqD_str {x : Str} (h : PySem.PyData.strOk x = true) : eqD (.str x) (.str x) = some (.bl true) := by
  unfold eqD
  rw [show toP (.str x) = some (.str x) from if_pos h]
  show (if _ ∧ _ then some (D.bl (PyData.eqv (.str x) (.str x))) else none) = _
  rw [if_pos (by constructor <;> simp [PyData.depth])]
  simp [PyData.eqv]
theorem same_ur : ∀ (n : Nat) (d : D), fitS n d → UR__law_same n [d, d] = .ok (.bl true)
  | 0, d, h => by cases d <;> exact h.elim
  | n + 1, d, h => by
    show W__law_same (UR__law_same n) d d = _
    unfold W__law_same
    cases d with
    | int i => simp
    | bl b => simp
    | non => simp
    | str x =>
      have e := eqD_str (show PySem.PyData.strOk x = true from h)
      simp [e]
    | lst l =>
      obtain ⟨h1, h2⟩ := h
      have e : lcU (fun x => un2 x fun mine its => UR__law_same n [mine, its]) (l.map fun x => D.tup [x, x]) = .ok (l.map fun _ => D.bl true) := lcU_ok h1 fun x hx => by rw [un2_tup]; exact same_ur n x (h2 x hx)
      have e2 : allD [.lst (l.map fun _ => D.bl true)] = some (.bl true) := by rw [allD_map (fun _ => true) l]; simp
      simp [zpD_self, e, e2]
    | tup l =>
      obtain ⟨h1, h2⟩ := h
      have e : lcU (fun x => un2 x fun mine its => UR__law_same n [mine, its]) (l.map fun x => D.tup [x, x]) = .ok (l.map fun _ => D.bl true) := lcU_ok h1 fun x hx => by rw [un2_tup]; exact same_ur n x (h2 x hx)
      have e2 : allD [.lst (l.map fun _ => D.bl true)] = some (.bl true) := by rw [allD_map (fun _ => true) l]; simp
      simp [zpD_self, e, e2]
    | dic => exact h.elim
    | fn => exact h.elim
    | scr => exact h.elim
theorem same_ok {d : D} (h : fitS 10 d) : U__law_same d d = .ok (.bl true) := same_ur 10 d h
theorem same_eq {d e : D} (h : d = e) (hf : fitS 10 e) : U__law_same d e = .ok (.bl true) := by subst h; exact same_ok hf
@[simp] theorem fitS_int (n : Nat) (i : Int) : fitS (n + 1) (.int i) := trivial
@[simp] theorem fitS_bl (n : Nat) (i : Bool) : fitS (n + 1) (.bl i) := trivial
@[simp] theorem fitS_non (n : Nat) : fitS (n + 1) .non := trivial
@[simp] theorem fitS_oI (n : Nat) (o : Option Int) : fitS (n + 1) (oI o) := by cases o <;> trivial
theorem fitS_lst {n : Nat} {l : List D} : fitS (n + 1) (.lst l) ↔ l.length ≤ 1000000 ∧ ∀ x ∈ l, fitS n x := Iff.rfl
theorem fitS_tup {n : Nat} {l : List D} : fitS (n + 1) (.tup l) ↔ l.length ≤ 1000000 ∧ ∀ x ∈ l, fitS n x := Iff.rfl
theorem fitS_row {n : Nat} {r : List Int} (h : r.length ≤ 1000000) : fitS (n + 2) (row r) := by
  refine ⟨by simpa using h, fun x hx => ?_⟩
  obtain ⟨a, _, rfl⟩ := List.mem_map.mp hx
  trivial
theorem fitS_liL {n : Nat} {r : List Int} (h : r.length ≤ 1000000) : fitS (n + 2) (.lst (iL r)) := fitS_row (n := n) h
/-! rows -/
def VR (r : List Int) : Prop := 0 < r.length ∧ r.length ≤ 400 ∧ ∀ x ∈ r, 0 ≤ x ∧ x ≤ 30
theorem is_row_in_ok {r : List Int} (h : VR r) : U_is_row_in (row r) = .ok (.bl true) := by
  obtain ⟨h1, h2, h3⟩ := h
  have e0 : neD (row r) (.tup []) = some (.bl true) := by
    have := neD_row r []
    rw [decide_eq_false (List.length_pos_iff.mp h1)] at this
    exact this
  have e : lcU (fun own => U_is_within own (.int 0) (.int 30)) (r.map D.int) = .ok (r.map fun _ => D.bl true) := lcU_ok (by omega) fun x hx => by
    simp [h3 x hx]
  have e2 : allD [.lst (r.map fun _ => D.bl true)] = some (.bl true) := by rw [allD_map (fun _ => true) r]; simp
  unfold U_is_row_in
  simp [e0, iL, e, e2]
/-- what tupled makes a row of, a pair -/
def rowish (d : D) (r : List Int) : Prop := U_tupled d = .ok (row r)
theorem rowish.of {r : List Int} (h : r.length ≤ 1000000) : rowish (row r) r := (tupled_ok (fitT_row h)).trans (by rw [tupS_row])
theorem rowish.lst {r : List Int} (h : r.length ≤ 1000000) : rowish (.lst (iL r)) r := (tupled_ok (fitT_liL h)).trans (by rw [tupS_liL])
theorem VR.ish {r : List Int} (h : VR r) : rowish (row r) r := rowish.of (by have := h.2.1; omega)
theorem VR.ishL {r : List Int} (h : VR r) : rowish (.lst (iL r)) r := rowish.lst (by have := h.2.1; omega)
theorem rowish.hops {d : D} {r : List Int} (k : rowish d r) (h : VR r) : U_sure_hops d = .ok (row r) := by
  obtain ⟨h1, h2, h3⟩ := h
  unfold U_sure_hops
  have : ¬ (400 < (r.length : Int)) := by omega
  rw [k]
  simp [is_row_in_ok ⟨h1, h2, h3⟩, this]
theorem sure_hops_ok {r : List Int} (h : VR r) : U_sure_hops (row r) = .ok (row r) := h.ish.hops h
theorem sure_hops_lst {r : List Int} (h : VR r) : U_sure_hops (.lst (iL r)) = .ok (row r) := h.ishL.hops h
theorem sure_two_ok {d e : D} {r q : List Int} (k : rowish d r) (k' : rowish e q) (h : VR r) (h' : VR q) : U_sure_two d e = .ok (.tup [row r, row q]) := by
  unfold U_sure_two; simp [k.hops h, k'.hops h']
/-- a pair of ints -/
def pr (a b : Int) : D := .tup [.int a, .int b]
def prish (d : D) (a b : Int) : Prop := U_tupled d = .ok (pr a b)
theorem prish.of (a b : Int) : prish (pr a b) a b := (tupled_ok (fitT_row (r := [a, b]) (by simp))).trans (by rw [tupS_row]; rfl)
theorem prish.lst (a b : Int) : prish (.lst [.int a, .int b]) a b := (tupled_ok (fitT_liL (r := [a, b]) (by simp))).trans (by rw [tupS_liL]; rfl)
theorem prish.tupled {d : D} {a b : Int} (k : prish d a b) : U_tupled d = .ok (pr a b) := k
@[simp] theorem pr_0 (a b : Int) : idxD (pr a b) (.int 0) = some (.int a) := by unfold pr; simp
@[simp] theorem pr_1 (a b : Int) : idxD (pr a b) (.int 1) = some (.int b) := by unfold pr; simp
@[simp] theorem pr_long (a b : Int) : U_is_long (pr a b) (.int 2) = .ok (.bl true) := by unfold pr; simp
/-- phases of rows -/
def inPh (r : List Int) (a : Int) : Prop := 0 ≤ a ∧ a < r.length
theorem sure_phases_ok {r q : List Int} {d : D} {a b : Int} (k : prish d a b) (ha : inPh r a) (hb : inPh q b) : U_sure_phases (row r) (row q) d = .ok (pr a b) := by
  unfold U_sure_phases
  have e1 : 0 ≤ a ∧ a ≤ (r.length : Int) - 1 := ⟨ha.1, by have := ha.2; omega⟩
  have e2 : 0 ≤ b ∧ b ≤ (q.length : Int) - 1 := ⟨hb.1, by have := hb.2; omega⟩
  simp [k.tupled, e1, e2]
end WK

set_option Elab.async false
set_option linter.all false
set_option maxRecDepth 100000
set_option maxHeartbeats 1000000
/-! PS3: meetings -/
namespace WK
open PySem PySem.Spec PyProof.Rows L2 DL
theorem findSome_if {α β : Type} (P : α → Bool) (h : α → β) (l : List α) : l.findSome? (fun k => if P k = true then some (h k) else none) = (l.find? P).map h := by
  induction l with
  | nil => rfl
  | cons a l ih =>
    rw [List.findSome?_cons, List.find?_cons]
    cases hp : P a with
    | true => rfl
    | false => simpa using ih
/-- in slot k both are on one channel, a told one or any -/
def meets (r q : List Int) (a b : Int) (c : Option Int) (k : Nat) : Bool := decide (atR r (a + k) = atR q (b + k)) && decide (c = none ∨ c = some (atR r (a + k)))
def together (r q : List Int) : Nat := Nat.lcm r.length q.length
def slotIn (r q : List Int) (a b : Int) (c : Option Int) : Option Nat := (List.range (together r q)).find? (meets r q a b c)
def timeIn (r q : List Int) (a b : Int) (c : Option Int) : Option Int := (slotIn r q a b c).map fun (k : Nat) => (k : Int) + 1
theorem together_pos {r q : List Int} (hr : 0 < r.length) (hq : 0 < q.length) : 0 < together r q := Nat.lcm_pos hr hq
theorem together_le {r q : List Int} (hr : r.length ≤ 400) (hq : q.length ≤ 400) : together r q ≤ 160000 := by
  unfold together Nat.lcm
  have h : r.length * q.length ≤ 400 * 400 := Nat.mul_le_mul hr hq
  exact Nat.le_trans (Nat.div_le_self _ _) h
theorem els_opt {o : Option D} : (FR.ok o : FR (Option D)).els (.ok .non) = .ok (o.getD .non) := by cases o <;> rfl
theorem time_in_ok {r q : List Int} {a b : Int} (c : Option Int) (hr : VR r) (hq : VR q) : U_time_in (row r) (row q) (pr a b) (oI c) = .ok (oI (timeIn r q a b c)) := by
  obtain ⟨r1, r2, _⟩ := hr
  obtain ⟨q1, q2, _⟩ := hq
  have hn := together_le r2 q2
  have z1 : (0 : Int) < r.length := by omega
  have z2 : (0 : Int) < q.length := by omega
  unfold U_time_in
  rw [together_ok r1 q1 (by omega), FR.bind_ok]
  change together r q ≤ _ at hn
  rw [show Nat.lcm r.length q.length = together r q from rfl, rg1_nat (by omega), o2f_some, FR.bind_ok]
  rw [findU_ok (p := fun k => if meets r q a b c k = true then some (.int ((k : Int) + 1)) else none) (fun k hk => by
    simp only [pr_0, pr_1, o2f_some, FR.bind_ok, addD_int, lenD_row, modD_int z1, modD_int z2, idx_mod r1, idx_mod q1, eqD_int, boolU_bl, inD_oI]
    unfold meets
    by_cases h : atR r (a + k) = atR q (b + k)
    · by_cases h2 : c = none ∨ c = some (atR r (a + k))
      · simp [h, h2]
        rcases h2 with h2 | h2 <;> simp [h2, h]
      · have h2' : ¬ (c = none ∨ c = some (atR q (b + k))) := by rwa [h] at h2
        simp [h, h2']
    · simp [h])]
  rw [els_opt, findSome_if]
  unfold timeIn slotIn
  cases (List.range (together r q)).find? (meets r q a b c) <;> rfl
theorem first_meet_ok {d e f : D} {r q : List Int} {a b : Int} (k : rowish d r) (k' : rowish e q) (kp : prish f a b) (hr : VR r) (hq : VR q) (ha : inPh r a) (hb : inPh q b) : U_first_meet d e f = .ok (oI (timeIn r q a b none)) := by
  unfold U_first_meet
  simp only [sure_two_ok k k' hr hq, FR.bind_ok, un2_tup, sure_phases_ok kp ha hb]
  have := time_in_ok (a := a) (b := b) none hr hq
  rw [oI_none] at this
  rw [this]; rfl
theorem first_meet_on_ok {d e f : D} {r q : List Int} {a b c : Int} (k : rowish d r) (k' : rowish e q) (kp : prish f a b) (hr : VR r) (hq : VR q) (ha : inPh r a) (hb : inPh q b) (c1 : 0 ≤ c) (c2 : c ≤ 30) : U_first_meet_on d e f (.int c) = .ok (oI (timeIn r q a b (some c))) := by
  unfold U_first_meet_on
  simp only [sure_two_ok k k' hr hq, FR.bind_ok, un2_tup, sure_phases_ok kp ha hb, sure_channel_ok c1 c2]
  have := time_in_ok (a := a) (b := b) (some c) hr hq
  rw [oI_some] at this
  rw [this]; rfl
/-- in how many slots of a round they meet -/
def meetsMany (r q : List Int) (a b : Int) : Nat := (List.range (together r q)).countP (meets r q a b none)
theorem foldl_count {α : Type} (P : α → Bool) (l : List α) : ∀ n : Int, l.foldl (fun s k => s + (if P k = true then 1 else 0)) n = n + (l.countP P : Nat) := by
  induction l with
  | nil => intro n; simp
  | cons a l ih =>
    intro n
    rw [List.foldl_cons, ih, List.countP_cons]
    cases P a <;> simp <;> omega
theorem meetings_many_ok {d e f : D} {r q : List Int} {a b : Int} (k : rowish d r) (k' : rowish e q) (kp : prish f a b) (hr : VR r) (hq : VR q) (ha : inPh r a) (hb : inPh q b) : U_meetings_many d e f = .ok (.int (meetsMany r q a b)) := by
  have z1 : (0 : Int) < r.length := by have := hr.1; omega
  have z2 : (0 : Int) < q.length := by have := hq.1; omega
  have hn := together_le hr.2.1 hq.2.1
  unfold U_meetings_many
  simp only [sure_two_ok k k' hr hq, FR.bind_ok, un2_tup, sure_phases_ok kp ha hb]
  rw [together_ok hr.1 hq.1 (by have := hq.2.1; omega), FR.bind_ok, show Nat.lcm r.length q.length = together r q from rfl, rg1_nat (by omega), o2f_some, FR.bind_ok]
  have := (foldU_ok (l := List.range (together r q)) (g := fun (i : Nat) => D.int i) (e := D.int) (step := fun s (k : Nat) => s + (if meets r q a b none k = true then 1 else 0)) (t := 0) (fun _ => True) trivial
    (f := fun slot s => intU s fun n => (o2f (idxD (pr a b) (D.int 0))).bind fun z_2 => (o2f (addD z_2 slot)).bind fun z_3 => (o2f (lenD [row r])).bind fun z_4 => (o2f (modD z_3 z_4)).bind fun z_5 => (o2f (idxD (row r) z_5)).bind fun z_6 => (o2f (idxD (pr a b) (D.int 1))).bind fun z_7 => (o2f (addD z_7 slot)).bind fun z_8 => (o2f (lenD [row q])).bind fun z_9 => (o2f (modD z_8 z_9)).bind fun z_10 => (o2f (idxD (row q) z_10)).bind fun z_11 => (o2f (eqD z_6 z_11)).bind fun z_12 => (o2f (intD [z_12])).bind fun z_13 => intU z_13 fun m => .ok (D.int (n + m))) (fun k hk t _ => ⟨by
      simp only [intU_int, pr_0, pr_1, o2f_some, FR.bind_ok, addD_int, lenD_row, modD_int z1, modD_int z2, idx_mod hr.1, idx_mod hq.1, eqD_int, intD_bl]
      unfold meets; simp, trivial⟩)).1
  rw [this, FR.bind_ok, foldl_count]
  simp [meetsMany]
/-! many -/
def rowsish (d : D) (rs : List (List Int)) : Prop := U_tupled d = .ok (.tup (rs.map row))
theorem rowsish.tup {ds : List D} {rs : List (List Int)} (h : ds.map tupS = rs.map row) (hf : fitT 10 (.tup ds)) : rowsish (.tup ds) rs := (tupled_ok hf).trans (by rw [tupS_tup, h])
theorem rowsish.lst {ds : List D} {rs : List (List Int)} (h : ds.map tupS = rs.map row) (hf : fitT 10 (.lst ds)) : rowsish (.lst ds) rs := (tupled_ok hf).trans (by rw [tupS_lst, h])
theorem sure_lot_of_rows_ok {d : D} {rs : List (List Int)} (k : rowsish d rs) (h2 : 2 ≤ rs.length) (h5 : rs.length ≤ 5) (hv : ∀ r ∈ rs, VR r) : U_sure_lot_of_rows d = .ok (.tup (rs.map row)) := by
  unfold U_sure_lot_of_rows
  rw [k]
  have e1 : (2 : Int) ≤ rs.length := by omega
  have e2 : (rs.length : Int) ≤ 5 := by omega
  simp only [FR.bind_ok, isD1_tup, o2f_some, boolU_bl, decide_true, Bool.not_true, cond_false, cond_true, lenD_tup, List.length_map, cmI_int, e1, e2, Bool.not_false, seqU_tup]
  rw [lcU_ok (h := fun _ => D.bl true) (by omega) (fun r hr => by
    have h := hv r hr
    have : (r.length : Int) ≤ 400 := by have := h.2.1; omega
    simp [is_row_in_ok h, this]), FR.bind_ok, allD_true]
  simp
theorem round_of_ok {rs : List (List Int)} (hv : ∀ r ∈ rs, VR r) (hr : (rs.map (·.length)).foldl Nat.lcm 1 ≤ 100000) : U_round_of (.tup (rs.map row)) = .ok (.int ((rs.map (·.length)).foldl Nat.lcm 1 : Nat)) := by
  unfold U_round_of
  have key := foldU_ok (l := rs) (g := row) (e := fun (n : Nat) => D.int n) (step := fun n r => Nat.lcm n r.length) (t := 1) (fun n => 0 < n)
    (f := fun row s => (o2f (lenD [row])).bind fun z => (U_common s z).bind fun z_1 => (o2f (fdivD s z_1)).bind fun z_2 => (o2f (lenD [row])).bind fun z_3 => (o2f (mulD z_2 z_3)).bind fun found_2 => .ok found_2) (by omega) (fun r hr n hn => by
      obtain ⟨h1, h2, _⟩ := hv r hr
      obtain ⟨x, e1, e2⟩ := lcm_ops hn h1 (by omega)
      exact ⟨by simp [common_nat n r.length (by omega), e1, e2], Nat.lcm_pos hn h1⟩)
  have e : rs.foldl (fun n r => Nat.lcm n r.length) 1 = (rs.map (·.length)).foldl Nat.lcm 1 := by rw [List.foldl_map]
  simp only [seqU_tup]
  rw [show (D.int 1) = (fun (n : Nat) => D.int n) 1 from rfl, key.1, e, FR.bind_ok]
  have : ¬ ((100000 : Int) < ((rs.map (·.length)).foldl Nat.lcm 1 : Nat)) := by omega
  simp [this]
/-- phases, one for each row -/
def phs (ps : List Int) : D := row ps
theorem sure_places_ok {d : D} {rs : List (List Int)} {ps : List Int} (k : rowish d ps) (hl : ps.length = rs.length) (h5 : rs.length ≤ 5) (hp : ∀ p ∈ ps.zip rs, inPh p.2 p.1) : U_sure_places (.tup (rs.map row)) d = .ok (row ps) := by
  unfold U_sure_places
  rw [k]
  have e1 : ((ps.length : Nat) : Int) = (rs.length : Int) := by omega
  have e2 : zpU [row ps, .tup (rs.map row)] = some ((ps.zip rs).map fun p => D.tup [.int p.1, row p.2]) := by
    show some (zpD (iL ps) (rs.map row)) = _
    unfold iL; rw [zpD_map]
  simp only [FR.bind_ok, isD1_row, o2f_some, boolU_bl, decide_true, Bool.not_true, cond_false, lenD_row, lenD_tup, List.length_map, neD_int, e1, e2]
  rw [lcU_ok (h := fun _ => D.bl true) (by rw [List.length_zip]; omega) (fun p hp' => by
    have h := hp p hp'
    have e3 : 0 ≤ p.1 ∧ p.1 ≤ (p.2.length : Int) - 1 := ⟨h.1, by have := h.2; omega⟩
    simp [e3]), FR.bind_ok, allD_true]
  simp
/-- all stand on one channel in slot k -/
def allMeet (rs : List (List Int)) (ps : List Int) (k : Nat) : Bool := (rs.zip ps).all fun p => (rs.zip ps).all fun q => decide (atR p.1 (p.2 + k) = atR q.1 (q.2 + k))
def roundOf (rs : List (List Int)) : Nat := (rs.map (·.length)).foldl Nat.lcm 1
def allIn (rs : List (List Int)) (ps : List Int) : Option Int := ((List.range (roundOf rs)).find? (allMeet rs ps)).map fun (k : Nat) => (k : Int) + 1
theorem all_time_in_ok {rs : List (List Int)} {ps : List Int} (hv : ∀ r ∈ rs, VR r) (hl : ps.length = rs.length) (h2 : 2 ≤ rs.length) (h5 : rs.length ≤ 5) (hr : roundOf rs ≤ 100000) : U_all_time_in (.tup (rs.map row)) (row ps) (.int (roundOf rs : Nat)) = .ok (oI (allIn rs ps)) := by
  unfold U_all_time_in
  rw [rg1_nat (by omega), o2f_some, FR.bind_ok]
  have hne : (rs.zip ps).map (fun p => (0 : Int)) ≠ [] := by
    cases rs with
    | nil => simp at h2
    | cons r rs => cases ps with
      | nil => simp at hl
      | cons p ps => simp
  rw [findU_ok (p := fun k => if allMeet rs ps k = true then some (D.int ((k : Int) + 1)) else none) (fun k hk => by
    have e2 : zpU [.tup (rs.map row), row ps] = some ((rs.zip ps).map fun p => D.tup [row p.1, .int p.2]) := by
      show some (zpD (rs.map row) (iL ps)) = _
      unfold iL; rw [zpD_map]
    simp only [e2, o2f_some, FR.bind_ok]
    rw [lcU_ok (h := fun p => D.int (atR p.1 (p.2 + k))) (by rw [List.length_zip]; omega) (fun p hp' => by
      have h := hv p.1 (List.of_mem_zip hp').1
      have z : (0 : Int) < p.1.length := by have := h.1; omega
      simp only [un2_tup, addD_int, o2f_some, FR.bind_ok, lenD_row, modD_int z, idx_mod h.1]), FR.bind_ok]
    have hn : (rs.zip ps).map (fun p => atR p.1 (p.2 + k)) ≠ [] := by
      intro z; apply hne; rw [List.map_eq_nil_iff] at z ⊢; exact z
    rw [show ((rs.zip ps).map fun p => D.int (atR p.1 (p.2 + k))) = iL ((rs.zip ps).map fun p => atR p.1 (p.2 + k)) by unfold iL; rw [List.map_map]; rfl, minL_iL hn, maxL_iL hn]
    have e3 : decide (mnI ((rs.zip ps).map fun p => atR p.1 (p.2 + k)) = mxI ((rs.zip ps).map fun p => atR p.1 (p.2 + k))) = allMeet rs ps k := by
      unfold allMeet
      rw [Bool.eq_iff_iff, decide_eq_true_iff, mn_eq_mx hn, List.all_eq_true]
      constructor
      · intro h p hp
        rw [List.all_eq_true]
        intro q hq
        exact decide_eq_true (h _ (List.mem_map_of_mem hp) _ (List.mem_map_of_mem hq))
      · intro h x hx y hy
        obtain ⟨p, hp, rfl⟩ := List.mem_map.mp hx
        obtain ⟨q, hq, rfl⟩ := List.mem_map.mp hy
        exact of_decide_eq_true (List.all_eq_true.mp (h p hp) q hq)
    simp only [o2f_some, FR.bind_ok, eqD_int, boolU_bl, e3, addD_int]
    cases allMeet rs ps k <;> rfl)]
  rw [els_opt, findSome_if]
  unfold allIn
  cases (List.range (roundOf rs)).find? (allMeet rs ps) <;> rfl
theorem all_first_ok {d e : D} {rs : List (List Int)} {ps : List Int} (k : rowsish d rs) (kp : rowish e ps) (h2 : 2 ≤ rs.length) (h5 : rs.length ≤ 5) (hv : ∀ r ∈ rs, VR r) (hl : ps.length = rs.length) (hp : ∀ p ∈ ps.zip rs, inPh p.2 p.1) (hr : roundOf rs ≤ 100000) : U_all_first d e = .ok (oI (allIn rs ps)) := by
  unfold U_all_first
  rw [sure_lot_of_rows_ok k h2 h5 hv, FR.bind_ok, sure_places_ok kp hl h5 hp, FR.bind_ok, round_of_ok hv hr, FR.bind_ok]
  rw [show (rs.map (·.length)).foldl Nat.lcm 1 = roundOf rs from rfl, all_time_in_ok hv hl h2 h5 hr]; rfl
end WK

set_option Elab.async false
set_option linter.all false
set_option maxRecDepth 100000
set_option maxHeartbeats 1000000
/-! PS4: rests -/
namespace WK
open PySem PySem.Spec PyProof.Rows L2 DL
theorem contrary_ok {a n : Nat} (hn : 0 < n) (hn2 : n < 100000) (h : Nat.gcd a n = 1) (ha : a < 1000000) : ∃ x : Nat, U_contrary_by (.int a) (.int n) = .ok (.int x) ∧ x < n ∧ x * a % n = 1 % n := by
  obtain ⟨x0, hx0, hx1⟩ := NT.inv_exists hn h
  have hne : (List.range n).filter (fun x => decide (x * a % n = 1 % n)) ≠ [] := fun z => by
    have : x0 ∈ (List.range n).filter (fun x => decide (x * a % n = 1 % n)) := List.mem_filter.mpr ⟨List.mem_range.mpr hx0, decide_eq_true hx1⟩
    rw [z] at this
    cases this
  obtain ⟨x, xs, hxs⟩ := List.exists_cons_of_ne_nil hne
  have hx : x ∈ (List.range n).filter (fun x => decide (x * a % n = 1 % n)) := by rw [hxs]; exact List.mem_cons_self
  obtain ⟨h1, h2⟩ := List.mem_filter.mp hx
  refine ⟨x, ?_, List.mem_range.mp h1, of_decide_eq_true h2⟩
  have hn' : (0 : Int) < n := by omega
  unfold U_contrary_by
  rw [rg1_nat (by omega), o2f_some, FR.bind_ok, lcF_ok (h := fun (x : Nat) => D.int x) (fun x => decide (x * a % n = 1 % n)) (by rw [List.length_range]; omega) (fun y hy => by
    have e : decide ((y : Int) * (a : Int) % (n : Int) = 1 % (n : Int)) = decide (y * a % n = 1 % n) := by
      apply decide_eq_decide.mpr
      constructor
      · intro e; exact_mod_cast e
      · intro e; exact_mod_cast e
    rw [mulD_r (by omega) (by omega)]
    simp only [o2f_some, FR.bind_ok, modD_int hn', eqD_int, boolU_bl, e]
    by_cases hd : y * a % n = 1 % n <;> simp [hd]), FR.bind_ok, hxs]
  simp
theorem crt_uniq {m n x y : Nat} (hx : x < Nat.lcm m n) (hy : y < Nat.lcm m n) (h1 : x % m = y % m) (h2 : x % n = y % n) : x = y := by
  have key : ∀ {x y : Nat}, x ≤ y → y < Nat.lcm m n → x % m = y % m → x % n = y % n → x = y := by
    intro x y hxy hy h1 h2
    have d1 : m ∣ y - x := Nat.dvd_of_mod_eq_zero (Nat.sub_mod_eq_zero_of_mod_eq h1.symm)
    have d2 : n ∣ y - x := Nat.dvd_of_mod_eq_zero (Nat.sub_mod_eq_zero_of_mod_eq h2.symm)
    have d3 := Nat.lcm_dvd d1 d2
    rcases Nat.eq_zero_or_pos (y - x) with h | h
    · omega
    · have := Nat.le_of_dvd h d3; omega
  rcases Nat.le_total x y with h | h
  · exact key h hy h1 h2
  · exact (key h hx h1.symm h2.symm).symm
/-- rests that come together -/
def restsMeet (m n a b : Nat) : Prop := ((b : Int) - a) % ((Nat.gcd m n : Nat) : Int) = 0
theorem restsMeet_of {m n a b t : Nat} (h1 : t % m = a) (h2 : t % n = b) : restsMeet m n a b := by
  unfold restsMeet
  have d1 : ((Nat.gcd m n : Nat) : Int) ∣ (t : Int) - a := by
    have : (m : Int) ∣ (t : Int) - a := by
      rw [← h1, Int.natCast_emod]; exact Int.dvd_self_sub_emod
    exact Int.dvd_trans (Int.natCast_dvd_natCast.mpr (Nat.gcd_dvd_left m n)) this
  have d2 : ((Nat.gcd m n : Nat) : Int) ∣ (t : Int) - b := by
    have : (n : Int) ∣ (t : Int) - b := by
      rw [← h2, Int.natCast_emod]; exact Int.dvd_self_sub_emod
    exact Int.dvd_trans (Int.natCast_dvd_natCast.mpr (Nat.gcd_dvd_right m n)) this
  have := Int.dvd_sub d1 d2
  rw [show (t : Int) - a - (t - b) = b - a by omega] at this
  exact Int.emod_eq_zero_of_dvd this
theorem crt_form {m n a b x : Nat} (hm : 0 < m) (hn : 0 < n) (ha : a < m) (hb : b < n) (hd : restsMeet m n a b) (hx : x * (m / Nat.gcd m n) % (n / Nat.gcd m n) = 1 % (n / Nat.gcd m n)) :
    ∃ y : Nat, (a : Int) + (m : Int) * (((b : Int) - a) / ((Nat.gcd m n : Nat) : Int) * (x : Int) % ((n / Nat.gcd m n : Nat) : Int)) = (y : Int) ∧ y < Nat.lcm m n ∧ y % m = a ∧ y % n = b := by
  have hg : 0 < Nat.gcd m n := Nat.gcd_pos_of_pos_left _ hm
  have e1 : Nat.gcd m n * (m / Nat.gcd m n) = m := Nat.mul_div_cancel' (Nat.gcd_dvd_left m n)
  have e2 : Nat.gcd m n * (n / Nat.gcd m n) = n := Nat.mul_div_cancel' (Nat.gcd_dvd_right m n)
  have eL : Nat.lcm m n = m * (n / Nat.gcd m n) := by unfold Nat.lcm; rw [Nat.mul_div_assoc _ (Nat.gcd_dvd_right m n)]
  have hn' : 0 < n / Nat.gcd m n := Nat.div_pos (Nat.gcd_le_right _ hn) hg
  unfold restsMeet at hd
  have hc : ((Nat.gcd m n : Nat) : Int) * (((b : Int) - a) / ((Nat.gcd m n : Nat) : Int)) = (b : Int) - a := Int.mul_ediv_cancel' (Int.dvd_of_emod_eq_zero hd)
  have hx' : ((n / Nat.gcd m n : Nat) : Int) ∣ (x : Int) * ((m / Nat.gcd m n : Nat) : Int) - 1 := by
    have : ((x * (m / Nat.gcd m n) % (n / Nat.gcd m n) : Nat) : Int) = ((1 % (n / Nat.gcd m n) : Nat) : Int) := by rw [hx]
    rw [Int.natCast_emod, Int.natCast_emod, Int.natCast_mul] at this
    exact (Int.emod_eq_emod_iff_emod_sub_eq_zero.mp this) |> Int.dvd_of_emod_eq_zero
  generalize hG : Nat.gcd m n = g at *
  generalize hM : m / g = m' at *
  generalize hN : n / g = n' at *
  generalize hC : ((b : Int) - a) / (g : Int) = c at *
  have s0 := Int.emod_nonneg (c * (x : Int)) (show (n' : Int) ≠ 0 by omega)
  have s1 := Int.emod_lt_of_pos (c * (x : Int)) (show (0 : Int) < n' by omega)
  have hs : (n' : Int) ∣ c * x - (c * x) % n' := Int.dvd_self_sub_emod
  generalize hS : (c * (x : Int)) % (n' : Int) = s at *
  obtain ⟨sn, rfl⟩ := Int.eq_ofNat_of_zero_le s0
  refine ⟨a + m * sn, by push_cast; rfl, ?_, ?_, ?_⟩
  · rw [eL]
    have : sn + 1 ≤ n' := by omega
    have := Nat.mul_le_mul_left m this
    rw [Nat.mul_add, Nat.mul_one] at this
    omega
  · rw [Nat.add_mul_mod_self_left, Nat.mod_eq_of_lt ha]
  · have d : (n : Int) ∣ ((a + m * sn : Nat) : Int) - b := by
      have k1 : (n' : Int) ∣ (m' : Int) * sn - c := by
        have k2 : (m' : Int) * sn - c = c * ((x : Int) * m' - 1) - m' * (c * x - sn) := by
          rw [Int.mul_sub, Int.mul_sub, Int.mul_one, show (m' : Int) * (c * x) = c * (x * m') by rw [Int.mul_left_comm, Int.mul_comm (m' : Int)]]; omega
        rw [k2]
        exact Int.dvd_sub (Int.dvd_trans hx' (Int.dvd_mul_left _ _)) (Int.dvd_trans hs (Int.dvd_mul_left _ _))
      have k3 : ((a + m * sn : Nat) : Int) - b = g * ((m' : Int) * sn - c) := by
        rw [Int.mul_sub, hc, ← Int.mul_assoc, ← Int.natCast_mul, e1]; push_cast; omega
      rw [k3, ← e2, Int.natCast_mul]
      exact Int.mul_dvd_mul_left _ k1
    have : ((a + m * sn : Nat) : Int) % n = (b : Int) % n := Int.emod_eq_emod_iff_emod_sub_eq_zero.mpr (Int.emod_eq_zero_of_dvd d)
    have : (((a + m * sn) % n : Nat) : Int) = ((b % n : Nat) : Int) := by rw [Int.natCast_emod, Int.natCast_emod]; exact this
    rw [Nat.mod_eq_of_lt hb] at this
    exact_mod_cast this
theorem rest_slot_no {d : D} {m n a b : Nat} (k : prish d a b) (hm : 0 < m ∧ m ≤ 400) (hn : 0 < n ∧ n ≤ 400) (ha : a < m) (hb : b < n) (hd : ¬ restsMeet m n a b) : U_rest_slot (.int m) (.int n) d = .er "CanNot" := by
  unfold restsMeet at hd
  have hg : 0 < Nat.gcd m n := Nat.gcd_pos_of_pos_left _ hm.1
  have hg' : (0 : Int) < (Nat.gcd m n : Nat) := by omega
  have w0 : 0 ≤ (a : Int) ∧ (a : Int) ≤ (m : Int) - 1 := by omega
  have w1 : 0 ≤ (b : Int) ∧ (b : Int) ≤ (n : Int) - 1 := by omega
  unfold U_rest_slot
  rw [sure_round_ok (by omega) (by omega), FR.bind_ok, sure_round_ok (by omega) (by omega), FR.bind_ok, k, FR.bind_ok]
  simp only [pr_long, FR.bind_ok, boolU_bl, Bool.not_true, cond_false, pr_0, pr_1, o2f_some, subD_int, is_within_int, decide_eq_true w0, decide_eq_true w1, common_nat m n (by omega), modD_int hg', neD_int, decide_eq_false hd, Bool.not_false, cond_true]
theorem rest_slot_ok {d : D} {m n a b : Nat} (k : prish d a b) (hm : 0 < m ∧ m ≤ 400) (hn : 0 < n ∧ n ≤ 400) (ha : a < m) (hb : b < n) (hd : restsMeet m n a b) : ∃ y : Nat, U_rest_slot (.int m) (.int n) d = .ok (.int y) ∧ y < Nat.lcm m n ∧ y % m = a ∧ y % n = b := by
  have hg : 0 < Nat.gcd m n := Nat.gcd_pos_of_pos_left _ hm.1
  have hg' : (0 : Int) < (Nat.gcd m n : Nat) := by omega
  have hg2 : Nat.gcd m n ≤ n := Nat.gcd_le_right _ hn.1
  have hn' : 0 < n / Nat.gcd m n := Nat.div_pos hg2 hg
  have hn2 : n / Nat.gcd m n ≤ n := Nat.div_le_self _ _
  have hm2 : m / Nat.gcd m n ≤ m := Nat.div_le_self _ _
  obtain ⟨x, e, hx, hx2⟩ := contrary_ok (a := m / Nat.gcd m n) (n := n / Nat.gcd m n) hn' (by omega) (Nat.coprime_div_gcd_div_gcd hg) (by omega)
  obtain ⟨y, f1, f2, f3, f4⟩ := crt_form hm.1 hn.1 ha hb hd hx2
  refine ⟨y, ?_, f2, f3, f4⟩
  have w0 : 0 ≤ (a : Int) ∧ (a : Int) ≤ (m : Int) - 1 := by omega
  have w1 : 0 ≤ (b : Int) ∧ (b : Int) ≤ (n : Int) - 1 := by omega
  have g1 : ((Nat.gcd m n : Nat) : Int) < 1073741824 := by omega
  have d0 : fdivD (.int (m : Int)) (.int ((Nat.gcd m n : Nat) : Int)) = some (.int ((m / Nat.gcd m n : Nat) : Int)) := fdivD_int hg' g1
  have d1 : fdivD (.int (n : Int)) (.int ((Nat.gcd m n : Nat) : Int)) = some (.int ((n / Nat.gcd m n : Nat) : Int)) := fdivD_int hg' g1
  have m1 : ∀ i : Int, mulD (.int i) (.int (x : Int)) = some (.int (i * x)) := fun i => mulD_r (by omega) (by omega)
  have m2 : ∀ i : Int, mulD (.int (m : Int)) (.int i) = some (.int (m * i)) := fun i => mulD_l (by omega) (by omega)
  have hd' : ((b : Int) - a) % ((Nat.gcd m n : Nat) : Int) = 0 := hd
  have p2 : (0 : Int) < ((n / Nat.gcd m n : Nat) : Int) := by omega
  unfold U_rest_slot
  rw [sure_round_ok (by omega) (by omega), FR.bind_ok, sure_round_ok (by omega) (by omega), FR.bind_ok, k, FR.bind_ok]
  simp only [pr_long, FR.bind_ok, boolU_bl, Bool.not_true, cond_false, pr_0, pr_1, o2f_some, subD_int, is_within_int, decide_eq_true w0, decide_eq_true w1, common_nat m n (by omega), modD_int hg', neD_int, hd', decide_true, d0, d1, fdivD_int hg' g1, e, m1, m2, modD_int p2, addD_int, f1]
/-- least slot that leaves both rests -/
def restIn (m n a b : Nat) : Option Nat := (List.range (Nat.lcm m n)).find? fun t => decide (t % m = a) && decide (t % n = b)
theorem restIn_some {m n a b y : Nat} (h1 : y < Nat.lcm m n) (h2 : y % m = a) (h3 : y % n = b) : restIn m n a b = some y := by
  unfold restIn
  rw [List.find?_range_eq_some]
  refine ⟨by simp [h2, h3], List.mem_range.mpr h1, fun j hj => ?_⟩
  by_cases h : j % m = a ∧ j % n = b
  · have := crt_uniq (Nat.lt_trans hj h1) h1 (h.1.trans h2.symm) (h.2.trans h3.symm)
    omega
  · simp; exact Decidable.not_and_iff_not_or_not.mp h
theorem restIn_none {m n a b : Nat} (h : ¬ restsMeet m n a b) : restIn m n a b = none := by
  unfold restIn
  rw [List.find?_eq_none]
  intro t _ ht
  simp at ht
  exact h (restsMeet_of ht.1 ht.2)
/-- what rest_slot tells, or the error -/
theorem rest_slot_spec {d : D} {m n a b : Nat} (k : prish d a b) (hm : 0 < m ∧ m ≤ 400) (hn : 0 < n ∧ n ≤ 400) (ha : a < m) (hb : b < n) : U_rest_slot (.int m) (.int n) d = match restIn m n a b with
    | some y => .ok (.int y)
    | none => .er "CanNot" := by
  by_cases hd : restsMeet m n a b
  · obtain ⟨y, e, h1, h2, h3⟩ := rest_slot_ok k hm hn ha hb hd
    rw [e, restIn_some h1 h2 h3]
  · rw [rest_slot_no k hm hn ha hb hd, restIn_none hd]
theorem place_slot_ok {d e : D} {m n q0 q1 : Nat} {p0 p1 r0 r1 : Int} (k : prish d p0 p1) (k' : prish e r0 r1) (hm : 0 < m ∧ m ≤ 400) (hn : 0 < n ∧ n ≤ 400) (a0 : 0 ≤ p0 ∧ p0 < m) (a1 : 0 ≤ p1 ∧ p1 < n) (b0 : 0 ≤ r0 ∧ r0 < m) (b1 : 0 ≤ r1 ∧ r1 < n) (e0 : (q0 : Int) = (r0 - p0) % m) (e1 : (q1 : Int) = (r1 - p1) % n) :
    U_place_slot (.int m) (.int n) d e = U_rest_slot (.int m) (.int n) (pr q0 q1) := by
  have m0 : (0 : Int) < m := by omega
  have n0 : (0 : Int) < n := by omega
  have w1 : 0 ≤ p0 ∧ p0 ≤ (m : Int) - 1 := by omega
  have w2 : 0 ≤ p1 ∧ p1 ≤ (n : Int) - 1 := by omega
  have w3 : 0 ≤ r0 ∧ r0 ≤ (m : Int) - 1 := by omega
  have w4 : 0 ≤ r1 ∧ r1 ≤ (n : Int) - 1 := by omega
  unfold U_place_slot
  rw [sure_round_ok (by omega) (by omega), FR.bind_ok, sure_round_ok (by omega) (by omega), FR.bind_ok, k, FR.bind_ok, k', FR.bind_ok]
  simp only [seqU_lst, foldU, pr_long, FR.bind_ok, boolU_bl, Bool.not_true, cond_false, pr_0, pr_1, o2f_some, subD_int, is_within_int, decide_eq_true w1, decide_eq_true w2, decide_eq_true w3, decide_eq_true w4, idxD_lst, atI_0, atI_1, modD_int m0, modD_int n0, ← e0, ← e1, FR.bind_pure]
  rfl
end WK

set_option Elab.async false
set_option linter.all false
set_option maxRecDepth 100000
set_option maxHeartbeats 1000000
/-! PS5: sets, slices, the law's frame -/
namespace WK
open PySem PySem.Spec PyProof.Rows L2 DL
/-- two rising lists with the same members are one -/
theorem up_ext : ∀ {l m : List Int}, l.Pairwise (· < ·) → m.Pairwise (· < ·) → (∀ x, x ∈ l ↔ x ∈ m) → l = m
  | [], [], _, _, _ => rfl
  | [], b :: m, _, _, h => by have := (h b).mpr List.mem_cons_self; cases this
  | a :: l, [], _, _, h => by have := (h a).mp List.mem_cons_self; cases this
  | a :: l, b :: m, hl, hm, h => by
    obtain ⟨l1, l2⟩ := List.pairwise_cons.mp hl
    obtain ⟨m1, m2⟩ := List.pairwise_cons.mp hm
    have hab : a = b := by
      rcases List.mem_cons.mp ((h a).mp List.mem_cons_self) with e | e
      · exact e
      · rcases List.mem_cons.mp ((h b).mpr List.mem_cons_self) with e2 | e2
        · exact e2.symm
        · have := m1 a e; have := l1 b e2; omega
    subst hab
    rw [up_ext l2 m2 fun x => ?_]
    constructor
    · intro hx
      rcases List.mem_cons.mp ((h x).mp (List.mem_cons_of_mem _ hx)) with e | e
      · subst e; have := l1 x hx; omega
      · exact e
    · intro hx
      rcases List.mem_cons.mp ((h x).mpr (List.mem_cons_of_mem _ hx)) with e | e
      · subst e; have := m1 x hx; omega
      · exact e
theorem ssI_eq {l m : List Int} (hm : m.Pairwise (· < ·)) (h : ∀ x, x ∈ l ↔ x ∈ m) : ssI l = m := up_ext (ssI_up l) hm fun x => (ssI_mem l x).trans (h x)
theorem ssO_row {r : List Int} (h : r.length < 64) : ssO (row r) = some (iL (ssI r)) := by
  show (unI (iL r)).bind _ = _; rw [unI_iL]; exact if_pos h
theorem ssO_lst {r : List Int} (h : r.length < 64) : ssO (.lst (iL r)) = some (iL (ssI r)) := ssO_row h
/-- a rising list's sort: itself; of a list without duplicates: what is rising with its members -/
theorem srtI_eq {l m : List Int} (hm : m.Pairwise (· ≤ ·)) (h : l.Perm m) : srtI l = m :=
  ((srtI_perm l).trans h).eq_of_pairwise (le := (· ≤ ·)) (fun a b _ _ h1 h2 => Int.le_antisymm h1 h2) (srtI_up l) hm
theorem channels_in_ok {r : List Int} (h : r.length < 64) : U_channels_in (row r) = .ok (row (ssI r)) := by
  unfold U_channels_in; rw [ssO_row h]; rfl
theorem ssI_len {r : List Int} (h : VR r) : (ssI r).length ≤ 31 := by
  have hp := ssI_up r
  have hb : ∀ x ∈ ssI r, 0 ≤ x ∧ x ≤ 30 := fun x hx => h.2.2 x ((ssI_mem r x).mp hx)
  have key : ∀ (l : List Int) (a : Int), l.Pairwise (· < ·) → (∀ x ∈ l, a ≤ x ∧ x ≤ 30) → (l.length : Int) ≤ max 0 (31 - a) := by
    intro l
    induction l with
    | nil => intro a _ _; simp; omega
    | cons x l ih =>
      intro a hp hb
      obtain ⟨h1, h2⟩ := List.pairwise_cons.mp hp
      have hx := hb x List.mem_cons_self
      have := ih (x + 1) h2 fun y hy => ⟨by have := h1 y hy; omega, (hb y (List.mem_cons_of_mem _ hy)).2⟩
      rw [List.length_cons]; omega
  have := key (ssI r) 0 hp hb
  omega
theorem all_channels_ok {d : D} {r : List Int} {rs : List (List Int)} (k : rowsish d (r :: rs)) (h2 : 1 ≤ rs.length) (h5 : rs.length ≤ 4) (hv : ∀ q ∈ r :: rs, VR q) (hr : r.length < 64) :
    U_all_channels d = .ok (row ((ssI r).filter fun c => (r :: rs).all fun q => decide (c ∈ q))) := by
  have hs := ssI_len (hv r List.mem_cons_self)
  unfold U_all_channels
  rw [sure_lot_of_rows_ok k (by simp; omega) (by simp; omega) hv]
  simp only [FR.bind_ok, List.map_cons, idxD_tup, atI_0, o2f_some, channels_in_ok hr, seqU_row, seqU_tup]
  rw [show iL (ssI r) = (ssI r).map D.int from rfl, lcF_ok (h := D.int) (fun c => (r :: rs).all fun q => decide (c ∈ q)) (by omega) (fun c hc => by
    rw [show row r :: rs.map row = (r :: rs).map row from rfl, lcU_ok (h := fun q => D.bl (decide (c ∈ q))) (by simp; omega) (fun q hq => by simp), FR.bind_ok, allD_map (fun q => decide (c ∈ q))]
    simp only [o2f_some, FR.bind_ok, boolU_bl]
    cases (r :: rs).all fun q => decide (c ∈ q) <;> rfl)]
  rfl
/-! slices -/
theorem cut_take (l : List D) (k : Nat) : DL.cutD l none (some (k : Int)) = l.take k := by
  unfold DL.cutD
  rw [HT.sIx_nat, show HT.sIx l.length 0 none = 0 from rfl, List.drop_zero, Nat.sub_zero]
  rw [List.take_eq_take_iff]; omega
theorem cut_drop (l : List D) (k : Nat) : DL.cutD l (some (k : Int)) none = l.drop k := by
  unfold DL.cutD
  rw [HT.sIx_nat, show HT.sIx l.length l.length none = l.length from rfl]
  by_cases h : k ≤ l.length
  · rw [Nat.min_eq_left h, List.take_of_length_le (by rw [List.length_drop]; omega)]
  · rw [Nat.min_eq_right (by omega), List.drop_eq_nil_of_le (Nat.le_refl _), List.drop_eq_nil_of_le (by omega), List.take_nil]
theorem cut_mid (l : List D) (a b : Nat) : DL.cutD l (some (a : Int)) (some (b : Int)) = (l.drop a).take (b - a) := by
  unfold DL.cutD
  rw [HT.sIx_nat, HT.sIx_nat]
  by_cases h : a ≤ l.length
  · rw [Nat.min_eq_left h, List.take_eq_take_iff, List.length_drop]; omega
  · rw [Nat.min_eq_right (show l.length ≤ a by omega), List.drop_eq_nil_of_le (Nat.le_refl _), List.drop_eq_nil_of_le (show l.length ≤ a by omega), List.take_nil, List.take_nil]
theorem iL_take (l : List Int) (k : Nat) : (iL l).take k = iL (l.take k) := by unfold iL; rw [List.map_take]
theorem iL_drop (l : List Int) (k : Nat) : (iL l).drop k = iL (l.drop k) := by unfold iL; rw [List.map_drop]
theorem slD_tup (lo hi : Option Int) (l : List D) : slD lo hi (.tup l) = some (.tup (DL.cutD l lo hi)) := rfl
theorem slD_lst (lo hi : Option Int) (l : List D) : slD lo hi (.lst l) = some (.lst (DL.cutD l lo hi)) := rfl
theorem slD_scr (lo hi : Option Int) (l : List Int) : slD lo hi (.scr l) = some (.lst (DL.cutD (iL l) lo hi)) := rfl
theorem slD_row (lo hi : Option Int) (l : List Int) : slD lo hi (row l) = some (.tup (DL.cutD (iL l) lo hi)) := rfl
/-! the frame -/
theorem iL_set (l : List Int) (n : Nat) (x : Int) : (iL l).set n (.int x) = iL (l.set n x) := by unfold iL; rw [List.map_set]
theorem cells_ok {ns : List Int} {m : Nat} (hl : ns.length ≤ 63) (hm : 1 ≤ m) (hm2 : m ≤ 63) : ∃ cs : List Int, U__law_cells (.scr ns) (.int m) = .ok (.lst (iL cs)) ∧ 1 ≤ cs.length ∧ cs.length ≤ m := by
  have m0 : (0 : Int) < m := by omega
  have c1 : slD none (some (m : Int)) (.scr ns) = some (.lst (iL (ns.take m))) := by rw [slD_scr, cut_take, iL_take]
  have c2 : slD (some (m : Int)) (some 63) (.scr ns) = some (.lst (iL ((ns.drop m).take (63 - m)))) := by
    rw [slD_scr, show (63 : Int) = ((63 : Nat) : Int) from rfl, cut_mid, iL_drop, iL_take]
  have fold : ∀ (items : List Int) (n : Nat) (cs : List Int), (cs.length = m ∨ items = []) → ∃ cs' : List Int, cs'.length = cs.length ∧
      foldU (fun x s => un2 x fun k_ bit => (o2f (intD [k_])).bind fun z_3 => (o2f (modD z_3 (.int m))).bind fun at__1 => (o2f (idxD (.lst s) at__1)).bind fun z_4 => (o2f (addD k_ (D.int 2))).bind fun z_5 => (o2f (mulD bit z_5)).bind fun z_6 => (o2f (addD z_4 z_6)).bind fun z_7 => (putU s at__1 z_7).bind fun cells_2 => .ok cells_2) (enD (iL items) n) (iL cs) = .ok (iL cs') ∨ 1000000 < n + items.length := by
    intro items
    induction items with
    | nil => intro n cs _; exact ⟨cs, .inl ⟨rfl, rfl⟩⟩
    | cons a items ih =>
      intro n cs h
      rcases h with h | h
      · by_cases hn : 1000000 < n + (a :: items).length
        · exact ⟨cs, .inr hn⟩
        · have hlt : ((n : Int) % (m : Int)).toNat < cs.length := by
            have := Int.emod_lt_of_pos (n : Int) m0; have := Int.emod_nonneg (n : Int) (show (m : Int) ≠ 0 by omega); omega
          have g0 := Int.emod_nonneg (n : Int) (show (m : Int) ≠ 0 by omega)
          have g1 := Int.emod_lt_of_pos (n : Int) m0
          have hx : atI (iL cs) ((n : Int) % (m : Int)) = some (.int (cs.getD ((n : Int) % (m : Int)).toNat 0)) := by
            rw [atI_get g0 (by rw [iL_length]; omega) (.int 0), iL_getD]
          have hp : ∀ v : Int, putU (iL cs) (.int ((n : Int) % (m : Int))) (.int v) = .ok (iL (cs.set ((n : Int) % (m : Int)).toNat v)) := fun v => by
            rw [putU_ok g0 (by rw [iL_length]; omega), iL_set]
          obtain ⟨cs', h1 | h1⟩ := ih (n + 1) (cs.set ((n : Int) % (m : Int)).toNat (cs.getD ((n : Int) % (m : Int)).toNat 0 + a * ((n : Int) + 2))) (.inl (by simpa using h))
          · refine ⟨cs', .inl ⟨by rw [h1.1]; simp, ?_⟩⟩
            show foldU _ (D.tup [.int n, .int a] :: enD (iL items) (n + 1)) _ = _
            unfold foldU
            have hmul : mulD (.int a) (.int ((n : Int) + 2)) = some (.int (a * ((n : Int) + 2))) := mulD_r (by omega) (by rw [List.length_cons] at hn; omega)
            simp only [un2_tup, intD_int, o2f_some, FR.bind_ok, modD_int m0, idxD_lst, hx, addD_int, hmul, hp]
            exact h1.2
          · exfalso; rw [List.length_cons] at hn; omega
      · cases h
  unfold U__law_cells
  simp only [intU_int, c1, o2f_some, FR.bind_ok, listO_lst, c2, enU_lst]
  by_cases hs : ns.length < m
  · have e : (ns.drop m).take (63 - m) = [] := by rw [List.drop_eq_nil_of_le (by omega), List.take_nil]
    rw [e, List.take_of_length_le (by omega)]
    cases ns with
    | nil => exact ⟨[0], rfl, by simp, by simpa using hm⟩
    | cons a ns =>
      refine ⟨a :: ns, rfl, by simp, ?_⟩
      omega
  · obtain ⟨cs', h | h⟩ := fold ((ns.drop m).take (63 - m)) 0 (ns.take m) (.inl (by rw [List.length_take]; omega))
    · have hne : iL (ns.take m) ≠ [] := by
        intro z
        have := congrArg List.length z
        rw [iL_length, List.length_take, List.length_nil] at this; omega
      refine ⟨cs', ?_, by rw [h.1, List.length_take]; omega, by rw [h.1, List.length_take]; omega⟩
      rw [orU_ne hne, FR.bind_ok, h.2]; rfl
    · have h2 : ((ns.drop m).take (63 - m)).length ≤ 63 - m := List.length_take_le _ _; omega
/-- the law's box -/
theorem box_form {F : D → D → FR (List D)} (c : Int) (hF : ∀ s k, F s k = ((o2f (lenD [s])).bind fun z => (o2f (ltD k z)).bind fun z_1 => boolU z_1 fun b => FR.bind (bif b then (o2f (idxD s k)).bind fun z_2 => .ok z_2 else .ok (D.int 0)) fun bit_1 => (o2f (absD [bit_1])).bind fun z_3 => (o2f (absD [bit_1])).bind fun z_4 => (o2f (powD (D.int 10) (D.int 18))).bind fun z_5 => (o2f (geD z_4 z_5)).bind fun z_6 => (o2f (intD [z_6])).bind fun z_7 => (o2f (mulD z_3 z_7)).bind fun z_8 => (o2f (intD [bit_1])).bind fun z_9 => (o2f (modD z_9 (D.int 2305843009213693951))).bind fun z_10 => (o2f (mulD (D.int 39373) k)).bind fun z_11 => (o2f (addD z_10 z_11)).bind fun z_12 => (o2f (addD z_12 (D.int c))).bind fun z_13 => .ok [z_8, z_13, (D.int 0)])) {cs : List Int} {k : Nat} (hk : k < cs.length) :
    ∃ t, F (.lst (iL cs)) (.int k) = .ok t ∧ OkT t 1000000000 := by
  have e1 : decide ((k : Int) < (cs.length : Int)) = true := decide_eq_true (by omega)
  have e2 : atI (iL cs) (k : Int) = some (.int (cs.getD k 0)) := by
    rw [atI_get (by omega) (by rw [iL_length]; omega) (.int 0), iL_getD]; rfl
  have e3 : powD (.int 10) (.int 18) = some (.int 1000000000000000000) := by
    rw [powD_int (by decide)]; rfl
  have e4 : ∀ (i : Int) (b : Bool), mulD (.int i) (.int (if b = true then 1 else 0)) = some (.int (i * (if b = true then 1 else 0))) := fun i b => mulD_r (by split <;> omega) (by split <;> omega)
  have e5 : ∀ i : Int, modD (.int i) (.int 2305843009213693951) = some (.int (i % 2305843009213693951)) := fun i => modD_int (by omega)
  have e6 : mulD (.int 39373) (.int k) = some (.int (39373 * k)) := mulD_l (by omega) (by omega)
  rw [hF]
  simp only [lenD_lst, iL_length, o2f_some, FR.bind_ok, cmI_int, boolU_bl, e1, cond_true, idxD_lst, e2, absD_int, e3, intD_bl, e4, intD_int, e5, e6, addD_int]
  exact ⟨_, rfl, _, _, _, rfl, by omega, by omega⟩
end WK

set_option Elab.async false
set_option linter.all false
set_option maxRecDepth 100000
set_option maxHeartbeats 1000000
/-! PS6: helpers that many laws share -/
namespace WK
open PySem PySem.Spec PyProof.Rows L2 DL
theorem forU_gcd {β α : Type} {g : α → D} {f : D → D × D → FR (Lo (D × D) β)} (h0 : ∀ d (a : Nat), f d (.int a, .int 0) = .ok (.bk (.int a, .int 0))) (h1 : ∀ d (a b : Nat), b ≠ 0 → f d (.int a, .int b) = .ok (.nx (.int b, .int ((a % b : Nat) : Int)))) :
    ∀ (l : List α) (b a : Nat), b < l.length → forU f (l.map g) (.int a, .int b) = .ok (.inl (.int (Nat.gcd a b : Nat), .int 0))
  | [], _, _, h => by simp at h
  | x :: l, b, a, h => by
    rw [List.map_cons]; unfold forU
    by_cases hb : b = 0
    · subst hb
      rw [show ((0 : Nat) : Int) = 0 from rfl, h0, Nat.gcd_zero_right]; rfl
    · rw [h1 _ a b hb, FR.bind_ok]
      have : a % b < b := Nat.mod_lt _ (by omega)
      show forU f _ _ = _
      rw [List.length_cons] at h
      rw [forU_gcd h0 h1 l (a % b) b (by omega), Nat.gcd_comm a b, Nat.gcd_rec b a, Nat.gcd_comm]
theorem forU_gcdR {α : Type} {g : α → D} {f : D → D × D → FR (Lo (D × D) D)} (M : Nat) (h0 : ∀ d (a : Nat), f d (.int a, .int 0) = .ok (.ret (.int a))) (h1 : ∀ d (a b : Nat), b ≠ 0 → b ≤ M → f d (.int a, .int b) = .ok (.nx (.int b, .int ((a % b : Nat) : Int)))) :
    ∀ (l : List α) (b a : Nat), b < l.length → b ≤ M → forU f (l.map g) (.int a, .int b) = .ok (.inr (.int (Nat.gcd a b : Nat)))
  | [], _, _, h, _ => by simp at h
  | x :: l, b, a, h, hM => by
    rw [List.map_cons]; unfold forU
    by_cases hb : b = 0
    · subst hb
      rw [show ((0 : Nat) : Int) = 0 from rfl, h0, Nat.gcd_zero_right]; rfl
    · rw [h1 _ a b hb hM, FR.bind_ok]
      have : a % b < b := Nat.mod_lt _ (by omega)
      show forU f _ _ = _
      rw [List.length_cons] at h
      rw [forU_gcdR M h0 h1 l (a % b) b (by omega) (by omega), Nat.gcd_comm a b, Nat.gcd_rec b a, Nat.gcd_comm]
theorem law_common_b_ok (a b : Nat) (h : b < 200) : U__law_common_b (.int a) (.int b) = .ok (.int (Nat.gcd a b : Nat)) := by
  unfold U__law_common_b
  rw [show (200 : Int) = ((200 : Nat) : Int) from rfl, rg1_nat (by omega), o2f_some, FR.bind_ok]
  rw [forU_gcd (fun d a => by simp) (fun d a b hb => by
    have : 0 < (b : Int) := by omega
    simp [modD_int this, hb]) _ b a (by rw [List.length_range]; exact h)]
  rfl
theorem law_common_ok (a b : Nat) (h : b < 400) : U__law_common (.int a) (.int b) = .ok (.int (Nat.gcd a b : Nat)) := by
  have ea : ¬ ((a : Int) < 0) := by omega
  have eb : ¬ ((b : Int) < 0) := by omega
  unfold U__law_common
  simp only [absD_int, ea, eb, if_false, o2f_some, FR.bind_ok]
  rw [show (400 : Int) = ((400 : Nat) : Int) from rfl, rg1_nat (by omega), o2f_some, FR.bind_ok]
  rw [forU_gcdR 400 (fun d a => by simp) (fun d x y hy hM => by
    have y0 : 0 < (y : Int) := by omega
    have e : (x : Int) - (x : Int) / y * y = ((x % y : Nat) : Int) := by rw [Int.natCast_emod, Int.emod_def, Int.mul_comm]
    have m : mulD (.int ((x : Int) / y)) (.int y) = some (.int ((x : Int) / y * y)) := mulD_r (by omega) (by omega)
    simp [fdivD_int y0 (by omega), m, hy, e]) _ b a (by rw [List.length_range]; exact h) (by omega)]
  rfl
/-- a draw below b, as a natural number -/
theorem take_int {t : List D} {b : Int} {k : Nat} (h : OkT t (k + 1)) (b1 : 1 ≤ b) (b2 : b < 1000000000) : ∃ (r : Nat) (t' : List D), U__law_take t (.int b) = .ok (.int r, t') ∧ (r : Int) < b ∧ OkT t' k := by
  obtain ⟨r, t', e, r0, r1, g⟩ := take_ok (b := b) h b1 (by omega)
  obtain ⟨n, rfl⟩ := Int.eq_ofNat_of_zero_le r0
  exact ⟨n, t', e, r1, g⟩
/-- a drawn good -/
theorem law_of_ok {α : Type} {t : List D} {k : Nat} (e : α → D) (gs : List α) {d : D} (hd : d = .lst (gs.map e) ∨ d = .tup (gs.map e)) (h : OkT t (k + 1)) (h1 : 1 ≤ gs.length) (h2 : gs.length < 1000000) : ∃ g ∈ gs, ∃ t', U__law_of t d = .ok (e g, t') ∧ OkT t' k := by
  obtain ⟨r, t', e1, r0, r1, ht⟩ := take_ok (b := (gs.length : Int)) h (by omega) (by omega)
  have hn : r.toNat < gs.length := by omega
  have ix : atI (gs.map e) r = some (e (gs[r.toNat])) := by
    rw [atI_get r0 (by rw [List.length_map]; exact r1) (e gs[r.toNat])]
    simp [List.getD, hn]
  refine ⟨gs[r.toNat], List.getElem_mem hn, t', ?_, ht⟩
  unfold U__law_of
  rcases hd with rfl | rfl <;> simp [e1, ix]
end WK

set_option Elab.async false
set_option linter.all false
set_option maxRecDepth 100000
set_option maxHeartbeats 2000000
set_option pp.maxSteps 30
set_option pp.oneline true
namespace WK
open PySem PySem.Spec PyProof.Rows L2 DL
def top (i : Nat) : Stmt := PySem.Challenge.pw_meetwithin_k57_main_three_lengths_come_t.main.body.getD i (.Pass ⟨0, 0, 0, 0⟩)
def D__law_box : SD := (sSeq (sSet 2 (dIf (tBl (dOp ltD (dVar 1) (dCb lenD (aCons (dVar 0) aNil)))) (dOp idxD (dVar 0) (dVar 1)) (dC (.int 0))))
  (sRetO (oLst (aCons (dOp mulD (dCb absD (aCons (dVar 2) aNil)) (dCb intD (aCons (dOp geD (dCb absD (aCons (dVar 2) aNil)) (dOp powD (dC (.int 10)) (dC (.int 18)))) aNil))) (aCons (dOp addD (dOp addD (dOp modD (dCb intD (aCons (dVar 2) aNil)) (dC (.int 2305843009213693951))) (dOp mulD (dC (.int 39373)) (dVar 1))) (dC (.int 25173057))) (aCons (dC (.int 0)) aNil))))))
abbrev F__law_box : FF := runP 3 2 D__law_box
def D__law_least : SD := (sSeq (sSet 2 (dC (.int 1)))
  (sSeq (sFor (iSeq (dVar 0)) (gdName 3) (sSet 2 (dOp mulD (dOp fdivD (dVar 2) (dCall F__law_common_b (aCons (dVar 2) (aCons (dVar 3) aNil)))) (dVar 3))))
  (sSeq (sFor (iR1 (aCons (dVar 2) aNil)) (gdName 4) (sIf (tBl (dOp eqD (dFz (oLc (iSeq (dVar 0)) (gdName 3) tdYes (dOp modD (dVar 4) (dVar 3)) [3])) (dFz (oCb listO (aCons (dVar 1) aNil))))) (sRet (dVar 4)) sNext))
  (sRet (dC .non)))))
abbrev F__law_least : FF := runP 5 2 D__law_least
def D__law_both : SD := (sRet (dOp mulD (dOp fdivD (dVar 0) (dCall F__law_common_b (aCons (dVar 0) (aCons (dVar 1) aNil)))) (dVar 1)))
abbrev F__law_both : FF := runP 2 2 D__law_both
def D__law_heard : SD := (sSeq (sAsg (dTup (aCons (dC .non) (aCons (dC .non) aNil))) (gdTup 2 (gdCons (gdName 3) (gdCons (gdName 4) gdNil))))
  (sSeq (sTry 5 3 "CanNot" (.bl true) (sSet 4 (dCall F_rest_slot (aCons (dVar 0) (aCons (dVar 1) (aCons (dVar 2) aNil))))))
  (sRet (dIf (tBl (dOp isN (dVar 3) (dC .non))) (dVar 4) (dIf (tBl (dVar 3)) (dC .non) (dUn negD (dC (.int 1))))))))
abbrev F__law_heard : FF := runP 6 3 D__law_heard
def D__law_right_7 : SD := (sSeq (sSet 17 (dCall F__law_least (aCons (dSl (dVar 1) pNo (pSome (dC (.int 2)))) (aCons (dSl (dVar 15) pNo (pSome (dC (.int 2)))) aNil))))
  (sRet (dCall F__law_same (aCons (dCall F_meetings_many (aCons (dOp idxD (dVar 12) (dC (.int 0))) (aCons (dOp idxD (dVar 12) (dC (.int 1))) (aCons (dTup (aCons (dOp idxD (dVar 14) (dC (.int 0))) (aCons (dOp idxD (dVar 14) (dC (.int 1))) aNil))) aNil)))) (aCons (dIf (tBl (dOp notN (dVar 17) (dC .non))) (dC (.int 1)) (dC (.int 0))) aNil)))))
def D__law_right_6 : SD := (sSeq (sIf (tBl (dOp notN (dVar 4) (dC .non))) (sSeq (sSet 16 (dCall F_place_slot (aCons (dOp idxD (dVar 1) (dC (.int 1))) (aCons (dOp idxD (dVar 1) (dC (.int 2))) (aCons (dTup (aCons (dOp idxD (dVar 14) (dC (.int 1))) (aCons (dOp idxD (dVar 14) (dC (.int 2))) aNil))) (aCons (dTup (aCons (dOp idxD (dVar 2) (dC (.int 1))) (aCons (dOp idxD (dVar 2) (dC (.int 2))) aNil))) aNil)))))) (sIf (tOR (tNo (tBl (dCall F__law_same (aCons (dVar 16) (aCons (dCall F__law_least (aCons (dSl (dVar 1) (pSome (dC (.int 1))) pNo) (aCons (dSl (dVar 15) (pSome (dC (.int 1))) pNo) aNil))) aNil))))) (tBl (dOp neD (dOp modD (dVar 4) (dCall F__law_both (aCons (dOp idxD (dVar 1) (dC (.int 1))) (aCons (dOp idxD (dVar 1) (dC (.int 2))) aNil)))) (dVar 16)))) (sRet (dC (.bl false))) sNext)) sNext)
  D__law_right_7)
def D__law_right_5 : SD := (sSeq (sSet 14 (dFz (oLc (iSeq (dVar 1)) (gdName 19) tdYes (dCallT F__law_take 0 (aCons (dVar 19) aNil)) [19])))
  (sSeq (sSet 15 (dFz (oLc (iR1 (aCons (dC (.int 3)) aNil)) (gdName 18) tdYes (dOp modD (dOp subD (dOp idxD (dVar 2) (dVar 18)) (dOp idxD (dVar 14) (dVar 18))) (dOp idxD (dVar 1) (dVar 18))) [18])))
  (sSeq (sSet 4 (dCall F__law_least (aCons (dVar 1) (aCons (dVar 15) aNil))))
  (sSeq (sIf (tNo (tBl (dCall F__law_same (aCons (dCall F_all_first (aCons (dVar 12) (aCons (dVar 14) aNil))) (aCons (dIf (tBl (dOp notN (dVar 4) (dC .non))) (dOp addD (dVar 4) (dC (.int 1))) (dC .non)) aNil))))) (sRet (dC (.bl false))) sNext)
  D__law_right_6))))
def D__law_right_4 : SD := (sSeq (sSet 12 (dFz (oLc (iR1 (aCons (dC (.int 3)) aNil)) (gdName 20) tdYes (dCb tupD (aCons (dFz (oLc (iR1 (aCons (dOp idxD (dVar 1) (dVar 20)) aNil)) (gdName 18) tdYes (dIf (tBl (dOp eqD (dVar 18) (dOp idxD (dVar 2) (dVar 20)))) (dC (.int 1)) (dOp addD (dC (.int 2)) (dVar 20))) [18])) aNil)) [20])))
  (sSeq (sSet 13 (dFz (oLst (aCons (dCall F_all_first (aCons (dCb tupD (aCons (dVar 12) aNil)) (aCons (dTup (aCons (dC (.int 0)) (aCons (dC (.int 0)) (aCons (dC (.int 0)) aNil)))) aNil))) (aCons (dCall F_all_channels (aCons (dVar 12) aNil)) (aCons (dCall F_first_meet (aCons (dOp idxD (dVar 12) (dC (.int 0))) (aCons (dOp idxD (dVar 12) (dC (.int 1))) (aCons (dTup (aCons (dC (.int 0)) (aCons (dC (.int 0)) aNil))) aNil)))) aNil))))))
  (sSeq (sIf (tNo (tBl (dCall F__law_same (aCons (dVar 13) (aCons (dFz (oLst (aCons (dIf (tBl (dOp notN (dVar 4) (dC .non))) (dOp addD (dVar 4) (dC (.int 1))) (dC .non)) (aCons (dTup (aCons (dC (.int 1)) aNil)) (aCons (dIf (tBl (dOp notN (dOp idxD (dVar 6) (dC (.int 0))) (dC .non))) (dOp addD (dOp idxD (dVar 6) (dC (.int 0))) (dC (.int 1))) (dC .non)) aNil))))) aNil))))) (sRet (dC (.bl false))) sNext)
  D__law_right_5)))
def D__law_right_3 : SD := (sSeq (sIf (tBl (dOp neD (dOp notN (dVar 4) (dC .non)) (dOp ninD (dC .non) (dVar 6)))) (sRet (dC (.bl false))) sNext)
  (sSeq (sFor (iSeq (dFz (oLst (aCons (dTup (aCons (dC (.int 0)) (aCons (dC (.int 1)) (aCons (dC (.int 2)) aNil)))) (aCons (dTup (aCons (dC (.int 0)) (aCons (dC (.int 2)) (aCons (dC (.int 1)) aNil)))) (aCons (dTup (aCons (dC (.int 1)) (aCons (dC (.int 2)) (aCons (dC (.int 0)) aNil)))) aNil)))))) (gdTup 3 (gdCons (gdName 7) (gdCons (gdName 8) (gdCons (gdName 9) gdNil)))) (sSeq (sSet 10 (dCall F__law_heard (aCons (dOp idxD (dVar 1) (dVar 7)) (aCons (dOp idxD (dVar 1) (dVar 8)) (aCons (dTup (aCons (dOp idxD (dVar 2) (dVar 7)) (aCons (dOp idxD (dVar 2) (dVar 8)) aNil))) aNil))))) (sIf (tBl (dOp notN (dVar 10) (dC .non))) (sSeq (sSet 11 (dCall F__law_both (aCons (dOp idxD (dVar 1) (dVar 7)) (aCons (dOp idxD (dVar 1) (dVar 8)) aNil)))) (sIf (tNo (tBl (dCall F__law_same (aCons (dFz (oLst (aCons (dCall F__law_heard (aCons (dVar 11) (aCons (dOp idxD (dVar 1) (dVar 9)) (aCons (dFz (oLst (aCons (dVar 10) (aCons (dOp idxD (dVar 2) (dVar 9)) aNil)))) aNil)))) (aCons (dCall F__law_heard (aCons (dOp idxD (dVar 1) (dVar 9)) (aCons (dVar 11) (aCons (dTup (aCons (dOp idxD (dVar 2) (dVar 9)) (aCons (dVar 10) aNil))) aNil)))) aNil)))) (aCons (dFz (oLst (aCons (dVar 4) (aCons (dVar 4) aNil)))) aNil))))) (sRet (dC (.bl false))) sNext)) sNext)))
  D__law_right_4))
def D__law_right_2 : SD := (sSeq (sSet 4 (dCall F__law_least (aCons (dVar 1) (aCons (dVar 2) aNil))))
  (sSeq (sSet 5 (dFz (oLst (aCons (dTup (aCons (dC (.int 0)) (aCons (dC (.int 1)) aNil))) (aCons (dTup (aCons (dC (.int 0)) (aCons (dC (.int 2)) aNil))) (aCons (dTup (aCons (dC (.int 1)) (aCons (dC (.int 2)) aNil))) aNil))))))
  (sSeq (sSet 6 (dFz (oLc (iSeq (dVar 5)) (gdTup 2 (gdCons (gdName 7) (gdCons (gdName 8) gdNil))) tdYes (dCall F__law_heard (aCons (dOp idxD (dVar 1) (dVar 7)) (aCons (dOp idxD (dVar 1) (dVar 8)) (aCons (dTup (aCons (dOp idxD (dVar 2) (dVar 7)) (aCons (dOp idxD (dVar 2) (dVar 8)) aNil))) aNil)))) [7, 8])))
  (sSeq (sIf (tNo (tBl (dCall F__law_same (aCons (dVar 6) (aCons (dFz (oLc (iSeq (dVar 5)) (gdTup 2 (gdCons (gdName 7) (gdCons (gdName 8) gdNil))) tdYes (dCall F__law_least (aCons (dFz (oLst (aCons (dOp idxD (dVar 1) (dVar 7)) (aCons (dOp idxD (dVar 1) (dVar 8)) aNil)))) (aCons (dFz (oLst (aCons (dOp idxD (dVar 2) (dVar 7)) (aCons (dOp idxD (dVar 2) (dVar 8)) aNil)))) aNil))) [7, 8])) aNil))))) (sRet (dC (.bl false))) sNext)
  D__law_right_3))))
def D__law_right_1 : SD := (sSeq (sSet 2 (dFz (oLc (iSeq (dVar 1)) (gdName 19) tdYes (dCallT F__law_take 0 (aCons (dVar 19) aNil)) [19])))
  (sSeq (sIf (tBl (dOp eqD (dCallT F__law_take 0 (aCons (dC (.int 2)) aNil)) (dC (.int 0)))) (sSeq (sSet 3 (dCallT F__law_take 0 (aCons (dC (.int 2000)) aNil))) (sSet 2 (dFz (oLc (iSeq (dVar 1)) (gdName 19) tdYes (dOp modD (dVar 3) (dVar 19)) [19])))) sNext)
  D__law_right_2))
def D__law_right : SD := (sSeq (sSet 1 (dFz (oLc (iR1 (aCons (dC (.int 3)) aNil)) (gdName 18) tdYes (dOp addD (dC (.int 1)) (dCallT F__law_take 0 (aCons (dC (.int 12)) aNil))) [18])))
  (sSeq (sIf (tBl (dOp eqD (dCallT F__law_take 0 (aCons (dC (.int 2)) aNil)) (dC (.int 0)))) (sSet 1 (dFz (oCb listO (aCons (dCallT F__law_of 0 (aCons (dFz (oLst (aCons (dTup (aCons (dC (.int 4)) (aCons (dC (.int 6)) (aCons (dC (.int 10)) aNil)))) (aCons (dTup (aCons (dC (.int 6)) (aCons (dC (.int 10)) (aCons (dC (.int 12)) aNil)))) (aCons (dTup (aCons (dC (.int 6)) (aCons (dC (.int 10)) (aCons (dC (.int 9)) aNil)))) (aCons (dTup (aCons (dC (.int 8)) (aCons (dC (.int 12)) (aCons (dC (.int 6)) aNil)))) (aCons (dTup (aCons (dC (.int 2)) (aCons (dC (.int 4)) (aCons (dC (.int 8)) aNil)))) (aCons (dTup (aCons (dC (.int 12)) (aCons (dC (.int 9)) (aCons (dC (.int 6)) aNil)))) (aCons (dTup (aCons (dC (.int 3)) (aCons (dC (.int 5)) (aCons (dC (.int 7)) aNil)))) aNil))))))))) aNil)) aNil)))) sNext)
  D__law_right_1))
abbrev F__law_right : FT := runT 21 1 D__law_right
def D_law : SD := (sSeq (sSet 1 (dCall F__law_cells (aCons (dVar 0) (aCons (dC (.int 2)) aNil))))
  (sSeq (sFor (iR1 (aCons (dCb lenD (aCons (dVar 1) aNil)) aNil)) (gdName 2) (sSeq (sSetO 3 (oCall F__law_box (aCons (dVar 1) (aCons (dVar 2) aNil))))
  (sIf (tNo (tBl (dCb allD (aCons (dFz (oLc (iR1 (aCons (dC (.int 5)) aNil)) (gdName 4) tdYes (dCallT F__law_right 3 aNil) [4])) aNil)))) (sRet (dC (.bl false))) sNext)))
  (sRet (dC (.bl true)))))
abbrev F_law : FF := runP 5 1 D_law
end WK

set_option Elab.async false
set_option linter.all false
set_option maxRecDepth 100000
set_option maxHeartbeats 2000000
set_option pp.maxSteps 30
set_option pp.oneline true
namespace WK
open PySem PySem.Spec PyProof.Rows L2 DL
def U__law_box (script : D) (k_ : D) : FR (List D) :=
  (o2f (lenD [script])).bind fun z => (o2f (ltD k_ z)).bind fun z_1 => boolU z_1 fun b => FR.bind (bif b then (o2f (idxD script k_)).bind fun z_2 => .ok z_2 else .ok (D.int 0)) fun bit_1 => (o2f (absD [bit_1])).bind fun z_3 => (o2f (absD [bit_1])).bind fun z_4 => (o2f (powD (D.int 10) (D.int 18))).bind fun z_5 => (o2f (geD z_4 z_5)).bind fun z_6 => (o2f (intD [z_6])).bind fun z_7 => (o2f (mulD z_3 z_7)).bind fun z_8 => (o2f (intD [bit_1])).bind fun z_9 => (o2f (modD z_9 (D.int 2305843009213693951))).bind fun z_10 => (o2f (mulD (D.int 39373) k_)).bind fun z_11 => (o2f (addD z_10 z_11)).bind fun z_12 => (o2f (addD z_12 (D.int 25173057))).bind fun z_13 => .ok [z_8, z_13, (D.int 0)]
abbrev L__law_box : List D → FR (List D) := fun xs => match xs with
  | [script, k_] => U__law_box script k_
  | _ => .bad
def U__law_least (longs : D) (rests : D) : FR D :=
  seqU longs fun l => (foldU (fun own s => (U__law_common_b s own).bind fun z => (o2f (fdivD s z)).bind fun z_1 => (o2f (mulD z_1 own)).bind fun most_2 => .ok most_2) l (D.int 1)).bind fun s_1 => (o2f (rg1 [s_1])).bind fun l_1 => (findU (fun t => seqU longs fun l_2 => (lcU (fun own_1 => (o2f (modD t own_1)).bind fun z_3 => .ok z_3) l_2).bind fun z_2 => (o2f (listO [rests])).bind fun z_4 => (o2f (eqD (D.lst z_2) (D.lst z_4))).bind fun z_5 => boolU z_5 fun b => bif b then .ok (some t) else .ok none) l_1).els (.ok D.non)
abbrev L__law_least : List D → FR D := fun xs => match xs with
  | [longs, rests] => U__law_least longs rests
  | _ => .bad
def U__law_both (near : D) (far : D) : FR D :=
  (U__law_common_b near far).bind fun z => (o2f (fdivD near z)).bind fun z_1 => (o2f (mulD z_1 far)).bind fun z_2 => .ok z_2
abbrev L__law_both : List D → FR D := fun xs => match xs with
  | [near, far] => U__law_both near far
  | _ => .bad
def U__law_heard (one : D) (two : D) (rests : D) : FR D :=
  un2 (D.tup [D.non, D.non]) fun caught told => (tryU (U_rest_slot one two rests) "CanNot").bind fun o => (o2f (isN (tryY o caught (D.bl true)) D.non)).bind fun z => boolU z fun b => FR.bind (bif b then .ok (tryX o told) else boolU (tryY o caught (D.bl true)) fun b_1 => FR.bind (bif b_1 then .ok D.non else (o2f (negD (D.int 1))).bind fun z_1 => .ok z_1) fun z_2 => .ok z_2) fun z_3 => .ok z_3
abbrev L__law_heard : List D → FR D := fun xs => match xs with
  | [one, two, rests] => U__law_heard one two rests
  | _ => .bad
def U__law_right_7 (tin : List D) (longs : D) (rows : D) (phases : D) (later : D) : FR (D × List D) :=
  intU (D.int 2) fun n => (o2f (slD none (some n) longs)).bind fun z => intU (D.int 2) fun n_1 => (o2f (slD none (some n_1) later)).bind fun z_1 => (U__law_least z z_1).bind fun once_1 => (o2f (idxD rows (D.int 0))).bind fun z_2 => (o2f (idxD rows (D.int 1))).bind fun z_3 => (o2f (idxD phases (D.int 0))).bind fun z_4 => (o2f (idxD phases (D.int 1))).bind fun z_5 => (U_meetings_many z_2 z_3 (D.tup [z_4, z_5])).bind fun z_6 => (o2f (notN once_1 D.non)).bind fun z_7 => boolU z_7 fun b => FR.bind (bif b then .ok (D.int 1) else .ok (D.int 0)) fun z_8 => (U__law_same z_6 z_8).bind fun z_9 => .ok (z_9, tin)
def U__law_right_6 (tin : List D) (longs : D) (rests : D) (due : D) (rows : D) (phases : D) (later : D) : FR (D × List D) :=
  (o2f (notN due D.non)).bind fun z => boolU z fun b => bif b then (o2f (idxD longs (D.int 1))).bind fun z_1 => (o2f (idxD longs (D.int 2))).bind fun z_2 => (o2f (idxD phases (D.int 1))).bind fun z_3 => (o2f (idxD phases (D.int 2))).bind fun z_4 => (o2f (idxD rests (D.int 1))).bind fun z_5 => (o2f (idxD rests (D.int 2))).bind fun z_6 => (U_place_slot z_1 z_2 (D.tup [z_3, z_4]) (D.tup [z_5, z_6])).bind fun told_1 => intU (D.int 1) fun n => (o2f (slD (some n) none longs)).bind fun z_7 => intU (D.int 1) fun n_1 => (o2f (slD (some n_1) none later)).bind fun z_8 => (U__law_least z_7 z_8).bind fun z_9 => (U__law_same told_1 z_9).bind fun z_10 => boolU z_10 fun b_1 => FR.bind (bif (!b_1) then .ok true else (o2f (idxD longs (D.int 1))).bind fun z_11 => (o2f (idxD longs (D.int 2))).bind fun z_12 => (U__law_both z_11 z_12).bind fun z_13 => (o2f (modD due z_13)).bind fun z_14 => (o2f (neD z_14 told_1)).bind fun z_15 => boolU z_15 fun b_2 => .ok b_2) fun b_3 => bif b_3 then .ok ((D.bl false), tin) else U__law_right_7 tin longs rows phases later else U__law_right_7 tin longs rows phases later
def U__law_right_5 (tin : List D) (longs : D) (rests : D) (rows : D) : FR (D × List D) :=
  seqU longs fun l => (lcT (fun own t_1 => (U__law_take t_1 own).bindN fun r => .ok (r.1, r.2)) l tin).bind fun phases_1 => (o2f (rg1 [(D.int 3)])).bind fun l_1 => (lcU (fun k_ => (o2f (idxD rests k_)).bind fun z => (o2f (idxD (D.lst phases_1.1) k_)).bind fun z_1 => (o2f (subD z z_1)).bind fun z_2 => (o2f (idxD longs k_)).bind fun z_3 => (o2f (modD z_2 z_3)).bind fun z_4 => .ok z_4) l_1).bind fun later_1 => (U__law_least longs (D.lst later_1)).bind fun due_1 => (U_all_first rows (D.lst phases_1.1)).bind fun z_5 => (o2f (notN due_1 D.non)).bind fun z_6 => boolU z_6 fun b => FR.bind (bif b then (o2f (addD due_1 (D.int 1))).bind fun z_7 => .ok z_7 else .ok D.non) fun z_8 => (U__law_same z_5 z_8).bind fun z_9 => boolU z_9 fun b_1 => bif (!b_1) then .ok ((D.bl false), phases_1.2) else U__law_right_6 phases_1.2 longs rests due_1 rows (D.lst phases_1.1) (D.lst later_1)
def U__law_right_4 (tin : List D) (longs : D) (rests : D) (due : D) (twos : D) : FR (D × List D) :=
  (o2f (rg1 [(D.int 3)])).bind fun l => (lcU (fun n => (o2f (idxD longs n)).bind fun z => (o2f (rg1 [z])).bind fun l_1 => (lcU (fun k_ => (o2f (idxD rests n)).bind fun z_2 => (o2f (eqD k_ z_2)).bind fun z_3 => boolU z_3 fun b => FR.bind (bif b then .ok (D.int 1) else (o2f (addD (D.int 2) n)).bind fun z_4 => .ok z_4) fun z_5 => .ok z_5) l_1).bind fun z_1 => (o2f (tupD [(D.lst z_1)])).bind fun z_6 => .ok z_6) l).bind fun rows_1 => (o2f (tupD [(D.lst rows_1)])).bind fun z_7 => (U_all_first z_7 (D.tup [(D.int 0), (D.int 0), (D.int 0)])).bind fun z_8 => (U_all_channels (D.lst rows_1)).bind fun z_9 => (o2f (idxD (D.lst rows_1) (D.int 0))).bind fun z_10 => (o2f (idxD (D.lst rows_1) (D.int 1))).bind fun z_11 => (U_first_meet z_10 z_11 (D.tup [(D.int 0), (D.int 0)])).bind fun z_12 => (o2f (notN due D.non)).bind fun z_13 => boolU z_13 fun b_1 => FR.bind (bif b_1 then (o2f (addD due (D.int 1))).bind fun z_14 => .ok z_14 else .ok D.non) fun z_15 => (o2f (idxD twos (D.int 0))).bind fun z_16 => (o2f (notN z_16 D.non)).bind fun z_17 => boolU z_17 fun b_2 => FR.bind (bif b_2 then (o2f (idxD twos (D.int 0))).bind fun z_18 => (o2f (addD z_18 (D.int 1))).bind fun z_19 => .ok z_19 else .ok D.non) fun z_20 => (U__law_same (D.lst [z_8, z_9, z_12]) (D.lst [z_15, (D.tup [(D.int 1)]), z_20])).bind fun z_21 => boolU z_21 fun b_3 => bif (!b_3) then .ok ((D.bl false), tin) else U__law_right_5 tin longs rests (D.lst rows_1)
def U__law_right_3 (tin : List D) (longs : D) (rests : D) (due : D) (twos : D) : FR (D × List D) :=
  (o2f (notN due D.non)).bind fun z => (o2f (ninD D.non twos)).bind fun z_1 => (o2f (neD z z_1)).bind fun z_2 => boolU z_2 fun b => bif b then .ok ((D.bl false), tin) else (findU (fun x => un3 x fun a b_1 c => (o2f (idxD longs a)).bind fun z_3 => (o2f (idxD longs b_1)).bind fun z_4 => (o2f (idxD rests a)).bind fun z_5 => (o2f (idxD rests b_1)).bind fun z_6 => (U__law_heard z_3 z_4 (D.tup [z_5, z_6])).bind fun near_1 => (o2f (notN near_1 D.non)).bind fun z_7 => boolU z_7 fun b_2 => bif b_2 then (o2f (idxD longs a)).bind fun z_8 => (o2f (idxD longs b_1)).bind fun z_9 => (U__law_both z_8 z_9).bind fun both_1 => (o2f (idxD longs c)).bind fun z_10 => (o2f (idxD rests c)).bind fun z_11 => (U__law_heard both_1 z_10 (D.lst [near_1, z_11])).bind fun z_12 => (o2f (idxD longs c)).bind fun z_13 => (o2f (idxD rests c)).bind fun z_14 => (U__law_heard z_13 both_1 (D.tup [z_14, near_1])).bind fun z_15 => (U__law_same (D.lst [z_12, z_15]) (D.lst [due, due])).bind fun z_16 => boolU z_16 fun b_3 => bif (!b_3) then .ok (some ((D.bl false), tin)) else .ok none else .ok none) [(D.tup [(D.int 0), (D.int 1), (D.int 2)]), (D.tup [(D.int 0), (D.int 2), (D.int 1)]), (D.tup [(D.int 1), (D.int 2), (D.int 0)])]).els (U__law_right_4 tin longs rests due twos)
def U__law_right_2 (tin : List D) (longs : D) (rests : D) : FR (D × List D) :=
  (U__law_least longs rests).bind fun due_1 => seqU (D.lst [(D.tup [(D.int 0), (D.int 1)]), (D.tup [(D.int 0), (D.int 2)]), (D.tup [(D.int 1), (D.int 2)])]) fun l => (lcU (fun x => un2 x fun a b => (o2f (idxD longs a)).bind fun z => (o2f (idxD longs b)).bind fun z_1 => (o2f (idxD rests a)).bind fun z_2 => (o2f (idxD rests b)).bind fun z_3 => (U__law_heard z z_1 (D.tup [z_2, z_3])).bind fun z_4 => .ok z_4) l).bind fun twos_1 => seqU (D.lst [(D.tup [(D.int 0), (D.int 1)]), (D.tup [(D.int 0), (D.int 2)]), (D.tup [(D.int 1), (D.int 2)])]) fun l_1 => (lcU (fun x_1 => un2 x_1 fun a_1 b_1 => (o2f (idxD longs a_1)).bind fun z_6 => (o2f (idxD longs b_1)).bind fun z_7 => (o2f (idxD rests a_1)).bind fun z_8 => (o2f (idxD rests b_1)).bind fun z_9 => (U__law_least (D.lst [z_6, z_7]) (D.lst [z_8, z_9])).bind fun z_10 => .ok z_10) l_1).bind fun z_5 => (U__law_same (D.lst twos_1) (D.lst z_5)).bind fun z_11 => boolU z_11 fun b_2 => bif (!b_2) then .ok ((D.bl false), tin) else U__law_right_3 tin longs rests due_1 (D.lst twos_1)
def U__law_right_1 (tin : List D) (longs : D) : FR (D × List D) :=
  seqU longs fun l => (lcT (fun own t_1 => (U__law_take t_1 own).bindN fun r => .ok (r.1, r.2)) l tin).bind fun rests_1 => (U__law_take rests_1.2 (D.int 2)).bindN fun r_1 => (o2f (eqD r_1.1 (D.int 0))).bind fun z => boolU z fun b => bif b then (U__law_take r_1.2 (D.int 2000)).bindN fun lone_1 => seqU longs fun l_1 => (lcU (fun own_1 => (o2f (modD lone_1.1 own_1)).bind fun z_1 => .ok z_1) l_1).bind fun rests_3 => U__law_right_2 lone_1.2 longs (D.lst rests_3) else U__law_right_2 r_1.2 longs (D.lst rests_1.1)
def U__law_right (tin : List D) : FR (D × List D) :=
  (o2f (rg1 [(D.int 3)])).bind fun l => (lcT (fun k_ t_1 => (U__law_take t_1 (D.int 12)).bindN fun r => (o2f (addD (D.int 1) r.1)).bind fun z => .ok (z, r.2)) l tin).bind fun longs_1 => (U__law_take longs_1.2 (D.int 2)).bindN fun r_1 => (o2f (eqD r_1.1 (D.int 0))).bind fun z_1 => boolU z_1 fun b => bif b then (U__law_of r_1.2 (D.lst [(D.tup [(D.int 4), (D.int 6), (D.int 10)]), (D.tup [(D.int 6), (D.int 10), (D.int 12)]), (D.tup [(D.int 6), (D.int 10), (D.int 9)]), (D.tup [(D.int 8), (D.int 12), (D.int 6)]), (D.tup [(D.int 2), (D.int 4), (D.int 8)]), (D.tup [(D.int 12), (D.int 9), (D.int 6)]), (D.tup [(D.int 3), (D.int 5), (D.int 7)])])).bindN fun r_2 => (o2f (listO [r_2.1])).bind fun longs_3 => U__law_right_1 r_2.2 (D.lst longs_3) else U__law_right_1 r_1.2 (D.lst longs_1.1)
abbrev L__law_right : List D → List D → FR (D × List D) := fun tin xs => match xs with
  | [] => U__law_right tin
  | _ => .bad
def U_law (script : D) : FR D :=
  (U__law_cells script (D.int 2)).bind fun cells_1 => (o2f (lenD [cells_1])).bind fun z => (o2f (rg1 [z])).bind fun l => (findU (fun n => (U__law_box cells_1 n).bind fun tin_1 => (o2f (rg1 [(D.int 5)])).bind fun l_1 => (lcT (fun lap t_1 => (U__law_right t_1).bindN fun r_1 => .ok (r_1.1, r_1.2)) l_1 tin_1).bind fun r => (o2f (allD [(D.lst r.1)])).bind fun z_1 => boolU z_1 fun b => bif (!b) then .ok (some (D.bl false)) else .ok none) l).els (.ok (D.bl true))
abbrev L_law : List D → FR D := fun xs => match xs with
  | [script] => U_law script
  | _ => .bad
end WK

set_option Elab.async false
set_option linter.all false
set_option maxRecDepth 100000
set_option maxHeartbeats 2000000
set_option pp.maxSteps 30
set_option pp.oneline true
namespace WK
open PySem PySem.Spec PyProof.Rows L2 DL
theorem u__law_box : ∀ xs, RefO (F__law_box xs) (L__law_box xs)
  | [script, k_] => ru_O (p := [.fz script, .fz k_, .un]) rfl rfl (by
    have h : ST [.fz script, .fz k_, .un] D__law_box okO _ := (st_set (be_if (be_bl (be_op (be_var (i := 1) rfl) (be_cb (ba_cons (be_var (i := 0) rfl) ba_nil)))) (be_op (be_var (i := 0) rfl) (be_var (i := 1) rfl)) be_c) (Q := fun bit => [.fz script, .fz k_, .fz bit]) (fun _ => rfl) (fun bit =>
 (st_roG (be_lst (ba_cons (be_op (be_cb (ba_cons (be_var (i := 2) rfl) ba_nil)) (be_cb (ba_cons (be_op (be_cb (ba_cons (be_var (i := 2) rfl) ba_nil)) (be_op be_c be_c)) ba_nil))) (ba_cons (be_op (be_op (be_op (be_cb (ba_cons (be_var (i := 2) rfl) ba_nil)) be_c) (be_op be_c (be_var (i := 1) rfl))) be_c) (ba_cons be_c ba_nil))) (by decide)) okO_ro)))
    exact h)
  | [] => trivial
  | [_] => trivial
  | _ :: _ :: _ :: _ => trivial
theorem u__law_least : ∀ xs, RefF (F__law_least xs) (L__law_least xs)
  | [longs, rests] => ru_V (p := [.fz longs, .fz rests, .un, .un, .un]) rfl rfl (by
    have h : ST [.fz longs, .fz rests, .un, .un, .un] D__law_least okV _ := (st_set be_c (Q := fun most => [.fz longs, .fz rests, .fz most, .un, .un]) (fun _ => rfl) (fun most =>
 (st_fold (P := fun (s : D) => [.fz longs, .fz rests, .fz s, .no, .un]) (s0 := most) (bi_sq (be_var (i := 0) rfl)) (wS (wS (wS (wU (wS .nil))))) (fun x0 s => tg_name (Q := fun own => [.fz longs, .fz rests, .fz s, .fz own, .un]) (fun _ => rfl) (fun own =>
 (st_last (st_set (be_op (be_op (be_var (i := 2) rfl) (be_call u__law_common_b (ba_cons (be_var (i := 2) rfl) (ba_cons (be_var (i := 3) rfl) ba_nil)))) (be_var (i := 3) rfl)) (Q := fun most_1 => [.fz longs, .fz rests, .fz most_1, .fz own, .un]) (fun _ => rfl) (fun most_1 =>
 (st_end (okN_nx (x := most_1) (wS (wS (wS (wF (wS .nil))))))))))) x0) (fun s_1 =>
 (st_find (r := [.fz longs, .fz rests, .fz s_1, .no, .any]) (bi_r1 (ba_cons (be_var (i := 2) rfl) ba_nil)) (wS (wS (wS (wS (wA .nil))))) (tg_name (Q := fun t => [.fz longs, .fz rests, .fz s_1, .no, .fz t]) (fun _ => rfl) (fun t =>
 (st_last (st_if (be_bl (be_op (be_fz (be_lc (bi_sq (be_var (i := 0) rfl)) rfl rfl (turn_name (fun own_1 => (be_op (be_var (i := 4) rfl) (be_var (i := 3) rfl))) (fun _ => WK.refl _)))) (be_fz (be_ocb (ba_cons (be_var (i := 1) rfl) ba_nil)))))
 (st_retS (be_var (i := 4) rfl) (okF_rt okV_rt))
 (st_nxt (st_end (okF_nx (wS (wS (wS (wS (wA .nil))))))))))))
 (st_retG be_c okV_rt))))))
    exact h)
  | [] => trivial
  | [_] => trivial
  | _ :: _ :: _ :: _ => trivial
theorem u__law_both : ∀ xs, RefF (F__law_both xs) (L__law_both xs)
  | [near, far] => ru_V (p := [.fz near, .fz far]) rfl rfl (by
    have h : ST [.fz near, .fz far] D__law_both okV _ := (st_retG (be_op (be_op (be_var (i := 0) rfl) (be_call u__law_common_b (ba_cons (be_var (i := 0) rfl) (ba_cons (be_var (i := 1) rfl) ba_nil)))) (be_var (i := 1) rfl)) okV_rt)
    exact h)
  | [] => trivial
  | [_] => trivial
  | _ :: _ :: _ :: _ => trivial
theorem u__law_heard : ∀ xs, RefF (F__law_heard xs) (L__law_heard xs)
  | [one, two, rests] => ru_V (p := [.fz one, .fz two, .fz rests, .un, .un, .un]) rfl rfl (by
    have h : ST [.fz one, .fz two, .fz rests, .un, .un, .un] D__law_heard okV _ := (st_asg2 (be_tup (ba_cons be_c (ba_cons be_c ba_nil)) (by decide)) (Q := fun caught told => [.fz one, .fz two, .fz rests, .fz caught, .fz told, .un]) (fun _ _ => rfl) (fun caught told =>
 (st_try u_rest_slot (pa_cons (pe_of (be_var (i := 0) rfl)) (pa_cons (pe_of (be_var (i := 1) rfl)) (pa_cons (pe_of (be_var (i := 2) rfl)) pa_nil))) (i := 5) rfl rfl rfl (by decide) (by decide) (Q := fun told_1 caught_1 => [.fz one, .fz two, .fz rests, .fz caught_1, .fz told_1, .un]) (fun _ _ => rfl) (fun told_1 caught_1 =>
 (st_retG (be_if (be_bl (be_op (be_var (i := 3) rfl) be_c)) (be_var (i := 4) rfl) (be_if (be_bl (be_var (i := 3) rfl)) be_c (be_un be_c))) okV_rt)))))
    exact h)
  | [] => trivial
  | [_] => trivial
  | [_, _] => trivial
  | _ :: _ :: _ :: _ :: _ => trivial
theorem t__law_right_7 (tin : List D) (longs : D) (rows : D) (phases : D) (later : D) : ST [.ow 0 tin, .fz longs, .any, .any, .any, .any, .any, .any, .any, .any, .any, .any, .fz rows, .any, .fz phases, .fz later, .any, .any, .any, .any, .any] D__law_right_7 okT (U__law_right_7 tin longs rows phases later) := by
  have h : ST [.ow 0 tin, .fz longs, .any, .any, .any, .any, .any, .any, .any, .any, .any, .any, .fz rows, .any, .fz phases, .fz later, .any, .any, .any, .any, .any] D__law_right_7 okT _ := (st_set (be_call u__law_least (ba_cons (be_sl (be_var (i := 1) rfl) be_pNo (be_pSome be_c)) (ba_cons (be_sl (be_var (i := 15) rfl) be_pNo (be_pSome be_c)) ba_nil))) (Q := fun once => [.ow 0 tin, .fz longs, .any, .any, .any, .any, .any, .any, .any, .any, .any, .any, .fz rows, .any, .fz phases, .fz later, .any, .fz once, .any, .any, .any]) (fun _ => rfl) (fun once =>
 (st_retG (be_call u__law_same (ba_cons (be_call u_meetings_many (ba_cons (be_op (be_var (i := 12) rfl) be_c) (ba_cons (be_op (be_var (i := 12) rfl) be_c) (ba_cons (be_tup (ba_cons (be_op (be_var (i := 14) rfl) be_c) (ba_cons (be_op (be_var (i := 14) rfl) be_c) ba_nil)) (by decide)) ba_nil)))) (ba_cons (be_if (be_bl (be_op (be_var (i := 17) rfl) be_c)) be_c be_c) ba_nil))) (okT_rt rfl))))
  exact h
theorem t__law_right_6 (tin : List D) (longs : D) (rests : D) (due : D) (rows : D) (phases : D) (later : D) : ST [.ow 0 tin, .fz longs, .fz rests, .any, .fz due, .any, .any, .any, .any, .any, .any, .any, .fz rows, .any, .fz phases, .fz later, .any, .any, .any, .any, .any] D__law_right_6 okT (U__law_right_6 tin longs rests due rows phases later) := by
  have h : ST [.ow 0 tin, .fz longs, .fz rests, .any, .fz due, .any, .any, .any, .any, .any, .any, .any, .fz rows, .any, .fz phases, .fz later, .any, .any, .any, .any, .any] D__law_right_6 okT _ := (st_if (be_bl (be_op (be_var (i := 4) rfl) be_c))
 (st_seq (st_set (be_call u_place_slot (ba_cons (be_op (be_var (i := 1) rfl) be_c) (ba_cons (be_op (be_var (i := 1) rfl) be_c) (ba_cons (be_tup (ba_cons (be_op (be_var (i := 14) rfl) be_c) (ba_cons (be_op (be_var (i := 14) rfl) be_c) ba_nil)) (by decide)) (ba_cons (be_tup (ba_cons (be_op (be_var (i := 2) rfl) be_c) (ba_cons (be_op (be_var (i := 2) rfl) be_c) ba_nil)) (by decide)) ba_nil))))) (Q := fun told => [.ow 0 tin, .fz longs, .fz rests, .any, .fz due, .any, .any, .any, .any, .any, .any, .any, .fz rows, .any, .fz phases, .fz later, .fz told, .any, .any, .any, .any]) (fun _ => rfl) (fun told =>
 (st_if (be_or (be_no (be_bl (be_call u__law_same (ba_cons (be_var (i := 16) rfl) (ba_cons (be_call u__law_least (ba_cons (be_sl (be_var (i := 1) rfl) (be_pSome be_c) be_pNo) (ba_cons (be_sl (be_var (i := 15) rfl) (be_pSome be_c) be_pNo) ba_nil))) ba_nil))))) (be_bl (be_op (be_op (be_var (i := 4) rfl) (be_call u__law_both (ba_cons (be_op (be_var (i := 1) rfl) be_c) (ba_cons (be_op (be_var (i := 1) rfl) be_c) ba_nil)))) (be_var (i := 16) rfl))))
 (st_retS be_c (okT_rt rfl))
 (st_nxt (st_weak (wS (wS (wA (wS (wA (wS (wS (wS (wS (wS (wS (wS (wS (wS (wS (wS (wA (wS (wS (wS (wS .nil))))))))))))))))))))) (t__law_right_7 tin longs rows phases later)))))))
 (st_nxt (st_weak (wS (wS (wA (wS (wA (wS (wS (wS (wS (wS (wS (wS (wS (wS (wS (wS (wS (wS (wS (wS (wS .nil))))))))))))))))))))) (t__law_right_7 tin longs rows phases later))))
  exact h
theorem t__law_right_5 (tin : List D) (longs : D) (rests : D) (rows : D) : ST [.ow 0 tin, .fz longs, .fz rests, .any, .any, .any, .any, .any, .any, .any, .any, .any, .fz rows, .any, .any, .any, .any, .any, .no, .no, .any] D__law_right_5 okT (U__law_right_5 tin longs rests rows) := by
  have h : ST [.ow 0 tin, .fz longs, .fz rests, .any, .any, .any, .any, .any, .any, .any, .any, .any, .fz rows, .any, .any, .any, .any, .any, .no, .no, .any] D__law_right_5 okT _ := (stT_set (P := fun t => [.ow 0 t, .fz longs, .fz rests, .any, .any, .any, .any, .any, .any, .any, .any, .any, .fz rows, .any, .any, .any, .any, .any, .no, .no, .any]) (t := tin) (bt_fz (bt_lc (bt_of fun _ => (bi_sq (be_var (i := 1) rfl))) (fun _ => rfl) (fun _ => rfl) (fun _ _ => rfl) (turnT_name (fun own => (bt_callT (i := 0) u__law_take (fun _ => rfl) (bat_of fun _ => (ba_cons (be_var (i := 19) rfl) ba_nil)) (fun _ => rfl) (fun _ _ => rfl))) (fun _ _ => WK.refl _)))) (Q' := fun phases t_2 => [.ow 0 t_2, .fz longs, .fz rests, .any, .any, .any, .any, .any, .any, .any, .any, .any, .fz rows, .any, .fz phases, .any, .any, .any, .no, .no, .any]) (fun _ _ => rfl) (fun phases t_2 =>
 (st_set (be_fz (be_lc (bi_r1 (ba_cons be_c ba_nil)) rfl rfl (turn_name (fun k_ => (be_op (be_op (be_op (be_var (i := 2) rfl) (be_var (i := 18) rfl)) (be_op (be_var (i := 14) rfl) (be_var (i := 18) rfl))) (be_op (be_var (i := 1) rfl) (be_var (i := 18) rfl)))) (fun _ => WK.refl _)))) (Q := fun later => [.ow 0 t_2, .fz longs, .fz rests, .any, .any, .any, .any, .any, .any, .any, .any, .any, .fz rows, .any, .fz phases, .fz later, .any, .any, .no, .no, .any]) (fun _ => rfl) (fun later =>
 (st_set (be_call u__law_least (ba_cons (be_var (i := 1) rfl) (ba_cons (be_var (i := 15) rfl) ba_nil))) (Q := fun due => [.ow 0 t_2, .fz longs, .fz rests, .any, .fz due, .any, .any, .any, .any, .any, .any, .any, .fz rows, .any, .fz phases, .fz later, .any, .any, .no, .no, .any]) (fun _ => rfl) (fun due =>
 (st_if (be_no (be_bl (be_call u__law_same (ba_cons (be_call u_all_first (ba_cons (be_var (i := 12) rfl) (ba_cons (be_var (i := 14) rfl) ba_nil))) (ba_cons (be_if (be_bl (be_op (be_var (i := 4) rfl) be_c)) (be_op (be_var (i := 4) rfl) be_c) be_c) ba_nil)))))
 (st_retS be_c (okT_rt rfl))
 (st_nxt (st_weak (wS (wS (wS (wS (wS (wS (wS (wS (wS (wS (wS (wS (wS (wS (wS (wS (wS (wS (wA (wA (wS .nil))))))))))))))))))))) (t__law_right_6 t_2 longs rests due rows phases later))))))))))
  exact h
theorem t__law_right_4 (tin : List D) (longs : D) (rests : D) (due : D) (twos : D) : ST [.ow 0 tin, .fz longs, .fz rests, .any, .fz due, .any, .fz twos, .any, .any, .any, .any, .any, .any, .any, .any, .any, .any, .any, .no, .no, .no] D__law_right_4 okT (U__law_right_4 tin longs rests due twos) := by
  have h : ST [.ow 0 tin, .fz longs, .fz rests, .any, .fz due, .any, .fz twos, .any, .any, .any, .any, .any, .any, .any, .any, .any, .any, .any, .no, .no, .no] D__law_right_4 okT _ := (st_set (be_fz (be_lc (bi_r1 (ba_cons be_c ba_nil)) rfl rfl (turn_name (fun n => (be_cb (ba_cons (be_fz (be_lc (bi_r1 (ba_cons (be_op (be_var (i := 1) rfl) (be_var (i := 20) rfl)) ba_nil)) rfl rfl (turn_name (fun k_ => (be_if (be_bl (be_op (be_var (i := 18) rfl) (be_op (be_var (i := 2) rfl) (be_var (i := 20) rfl)))) be_c (be_op be_c (be_var (i := 20) rfl)))) (fun _ => WK.refl _)))) ba_nil))) (fun _ => WK.refl _)))) (Q := fun rows => [.ow 0 tin, .fz longs, .fz rests, .any, .fz due, .any, .fz twos, .any, .any, .any, .any, .any, .fz rows, .any, .any, .any, .any, .any, .no, .no, .no]) (fun _ => rfl) (fun rows =>
 (st_set (be_fz (be_lst (ba_cons (be_call u_all_first (ba_cons (be_cb (ba_cons (be_var (i := 12) rfl) ba_nil)) (ba_cons (be_tup (ba_cons be_c (ba_cons be_c (ba_cons be_c ba_nil))) (by decide)) ba_nil))) (ba_cons (be_call u_all_channels (ba_cons (be_var (i := 12) rfl) ba_nil)) (ba_cons (be_call u_first_meet (ba_cons (be_op (be_var (i := 12) rfl) be_c) (ba_cons (be_op (be_var (i := 12) rfl) be_c) (ba_cons (be_tup (ba_cons be_c (ba_cons be_c ba_nil)) (by decide)) ba_nil)))) ba_nil))) (by decide))) (Q := fun got => [.ow 0 tin, .fz longs, .fz rests, .any, .fz due, .any, .fz twos, .any, .any, .any, .any, .any, .fz rows, .fz got, .any, .any, .any, .any, .no, .no, .no]) (fun _ => rfl) (fun got =>
 (st_if (be_no (be_bl (be_call u__law_same (ba_cons (be_var (i := 13) rfl) (ba_cons (be_fz (be_lst (ba_cons (be_if (be_bl (be_op (be_var (i := 4) rfl) be_c)) (be_op (be_var (i := 4) rfl) be_c) be_c) (ba_cons (be_tup (ba_cons be_c ba_nil) (by decide)) (ba_cons (be_if (be_bl (be_op (be_op (be_var (i := 6) rfl) be_c) be_c)) (be_op (be_op (be_var (i := 6) rfl) be_c) be_c) be_c) ba_nil))) (by decide))) ba_nil)))))
 (st_retS be_c (okT_rt rfl))
 (st_nxt (st_weak (wS (wS (wS (wS (wA (wS (wA (wS (wS (wS (wS (wS (wS (wA (wS (wS (wS (wS (wS (wS (wA .nil))))))))))))))))))))) (t__law_right_5 tin longs rests rows))))))))
  exact h
theorem t__law_right_3 (tin : List D) (longs : D) (rests : D) (due : D) (twos : D) : ST [.ow 0 tin, .fz longs, .fz rests, .any, .fz due, .any, .fz twos, .any, .any, .any, .any, .any, .any, .any, .any, .any, .any, .any, .no, .no, .no] D__law_right_3 okT (U__law_right_3 tin longs rests due twos) := by
  have h : ST [.ow 0 tin, .fz longs, .fz rests, .any, .fz due, .any, .fz twos, .any, .any, .any, .any, .any, .any, .any, .any, .any, .any, .any, .no, .no, .no] D__law_right_3 okT _ := (st_if (be_bl (be_op (be_op (be_var (i := 4) rfl) be_c) (be_op be_c (be_var (i := 6) rfl))))
 (st_retS be_c (okT_rt rfl))
 (st_nxt (st_find (r := [.ow 0 tin, .fz longs, .fz rests, .any, .fz due, .any, .fz twos, .any, .any, .any, .any, .any, .any, .any, .any, .any, .any, .any, .no, .no, .no]) (bi_sq (be_fz (be_lst (ba_cons (be_tup (ba_cons be_c (ba_cons be_c (ba_cons be_c ba_nil))) (by decide)) (ba_cons (be_tup (ba_cons be_c (ba_cons be_c (ba_cons be_c ba_nil))) (by decide)) (ba_cons (be_tup (ba_cons be_c (ba_cons be_c (ba_cons be_c ba_nil))) (by decide)) ba_nil))) (by decide)))) (wS (wS (wS (wS (wS (wS (wS (wS (wS (wS (wS (wS (wS (wS (wS (wS (wS (wS (wS (wS (wS .nil))))))))))))))))))))) (tg_tup3 (Q := fun a b_1 c => [.ow 0 tin, .fz longs, .fz rests, .any, .fz due, .any, .fz twos, .fz a, .fz b_1, .fz c, .any, .any, .any, .any, .any, .any, .any, .any, .no, .no, .no]) (fun _ _ _ => rfl) (fun a b_1 c =>
 (st_set (be_call u__law_heard (ba_cons (be_op (be_var (i := 1) rfl) (be_var (i := 7) rfl)) (ba_cons (be_op (be_var (i := 1) rfl) (be_var (i := 8) rfl)) (ba_cons (be_tup (ba_cons (be_op (be_var (i := 2) rfl) (be_var (i := 7) rfl)) (ba_cons (be_op (be_var (i := 2) rfl) (be_var (i := 8) rfl)) ba_nil)) (by decide)) ba_nil)))) (Q := fun near => [.ow 0 tin, .fz longs, .fz rests, .any, .fz due, .any, .fz twos, .fz a, .fz b_1, .fz c, .fz near, .any, .any, .any, .any, .any, .any, .any, .no, .no, .no]) (fun _ => rfl) (fun near =>
 (st_last (st_if (be_bl (be_op (be_var (i := 10) rfl) be_c))
 (st_seq (st_set (be_call u__law_both (ba_cons (be_op (be_var (i := 1) rfl) (be_var (i := 7) rfl)) (ba_cons (be_op (be_var (i := 1) rfl) (be_var (i := 8) rfl)) ba_nil))) (Q := fun both => [.ow 0 tin, .fz longs, .fz rests, .any, .fz due, .any, .fz twos, .fz a, .fz b_1, .fz c, .fz near, .fz both, .any, .any, .any, .any, .any, .any, .no, .no, .no]) (fun _ => rfl) (fun both =>
 (st_if (be_no (be_bl (be_call u__law_same (ba_cons (be_fz (be_lst (ba_cons (be_call u__law_heard (ba_cons (be_var (i := 11) rfl) (ba_cons (be_op (be_var (i := 1) rfl) (be_var (i := 9) rfl)) (ba_cons (be_fz (be_lst (ba_cons (be_var (i := 10) rfl) (ba_cons (be_op (be_var (i := 2) rfl) (be_var (i := 9) rfl)) ba_nil)) (by decide))) ba_nil)))) (ba_cons (be_call u__law_heard (ba_cons (be_op (be_var (i := 1) rfl) (be_var (i := 9) rfl)) (ba_cons (be_var (i := 11) rfl) (ba_cons (be_tup (ba_cons (be_op (be_var (i := 2) rfl) (be_var (i := 9) rfl)) (ba_cons (be_var (i := 10) rfl) ba_nil)) (by decide)) ba_nil)))) ba_nil)) (by decide))) (ba_cons (be_fz (be_lst (ba_cons (be_var (i := 4) rfl) (ba_cons (be_var (i := 4) rfl) ba_nil)) (by decide))) ba_nil)))))
 (st_retS be_c (okF_rt (okT_rt rfl)))
 (st_nxt (st_end (okF_nx (wS (wS (wS (wS (wS (wS (wS (wA (wA (wA (wA (wA (wS (wS (wS (wS (wS (wS (wS (wS (wS .nil))))))))))))))))))))))))))))
 (st_nxt (st_end (okF_nx (wS (wS (wS (wS (wS (wS (wS (wA (wA (wA (wA (wS (wS (wS (wS (wS (wS (wS (wS (wS (wS .nil))))))))))))))))))))))))))))))
 (st_weak (wS (wS (wS (wS (wS (wS (wS (wS (wS (wS (wS (wS (wS (wS (wS (wS (wS (wS (wS (wS (wS .nil))))))))))))))))))))) (t__law_right_4 tin longs rests due twos)))))
  exact h
theorem t__law_right_2 (tin : List D) (longs : D) (rests : D) : ST [.ow 0 tin, .fz longs, .fz rests, .any, .any, .any, .any, .no, .no, .any, .any, .any, .any, .any, .any, .any, .any, .any, .no, .no, .no] D__law_right_2 okT (U__law_right_2 tin longs rests) := by
  have h : ST [.ow 0 tin, .fz longs, .fz rests, .any, .any, .any, .any, .no, .no, .any, .any, .any, .any, .any, .any, .any, .any, .any, .no, .no, .no] D__law_right_2 okT _ := (st_set (be_call u__law_least (ba_cons (be_var (i := 1) rfl) (ba_cons (be_var (i := 2) rfl) ba_nil))) (Q := fun due => [.ow 0 tin, .fz longs, .fz rests, .any, .fz due, .any, .any, .no, .no, .any, .any, .any, .any, .any, .any, .any, .any, .any, .no, .no, .no]) (fun _ => rfl) (fun due =>
 (st_set (be_fz (be_lst (ba_cons (be_tup (ba_cons be_c (ba_cons be_c ba_nil)) (by decide)) (ba_cons (be_tup (ba_cons be_c (ba_cons be_c ba_nil)) (by decide)) (ba_cons (be_tup (ba_cons be_c (ba_cons be_c ba_nil)) (by decide)) ba_nil))) (by decide))) (Q := fun pairs => [.ow 0 tin, .fz longs, .fz rests, .any, .fz due, .fz pairs, .any, .no, .no, .any, .any, .any, .any, .any, .any, .any, .any, .any, .no, .no, .no]) (fun _ => rfl) (fun pairs =>
 (st_set (be_fz (be_lc (bi_sq (be_var (i := 5) rfl)) rfl rfl (turn_tup2 (fun a b => (be_call u__law_heard (ba_cons (be_op (be_var (i := 1) rfl) (be_var (i := 7) rfl)) (ba_cons (be_op (be_var (i := 1) rfl) (be_var (i := 8) rfl)) (ba_cons (be_tup (ba_cons (be_op (be_var (i := 2) rfl) (be_var (i := 7) rfl)) (ba_cons (be_op (be_var (i := 2) rfl) (be_var (i := 8) rfl)) ba_nil)) (by decide)) ba_nil))))) (fun _ _ => WK.refl _)))) (Q := fun twos => [.ow 0 tin, .fz longs, .fz rests, .any, .fz due, .fz pairs, .fz twos, .no, .no, .any, .any, .any, .any, .any, .any, .any, .any, .any, .no, .no, .no]) (fun _ => rfl) (fun twos =>
 (st_if (be_no (be_bl (be_call u__law_same (ba_cons (be_var (i := 6) rfl) (ba_cons (be_fz (be_lc (bi_sq (be_var (i := 5) rfl)) rfl rfl (turn_tup2 (fun a_1 b_1 => (be_call u__law_least (ba_cons (be_fz (be_lst (ba_cons (be_op (be_var (i := 1) rfl) (be_var (i := 7) rfl)) (ba_cons (be_op (be_var (i := 1) rfl) (be_var (i := 8) rfl)) ba_nil)) (by decide))) (ba_cons (be_fz (be_lst (ba_cons (be_op (be_var (i := 2) rfl) (be_var (i := 7) rfl)) (ba_cons (be_op (be_var (i := 2) rfl) (be_var (i := 8) rfl)) ba_nil)) (by decide))) ba_nil)))) (fun _ _ => WK.refl _)))) ba_nil)))))
 (st_retS be_c (okT_rt rfl))
 (st_nxt (st_weak (wS (wS (wS (wS (wS (wA (wS (wA (wA (wS (wS (wS (wS (wS (wS (wS (wS (wS (wS (wS (wS .nil))))))))))))))))))))) (t__law_right_3 tin longs rests due twos))))))))))
  exact h
theorem t__law_right_1 (tin : List D) (longs : D) : ST [.ow 0 tin, .fz longs, .any, .any, .any, .any, .any, .no, .no, .any, .any, .any, .any, .any, .any, .any, .any, .any, .no, .no, .no] D__law_right_1 okT (U__law_right_1 tin longs) := by
  have h : ST [.ow 0 tin, .fz longs, .any, .any, .any, .any, .any, .no, .no, .any, .any, .any, .any, .any, .any, .any, .any, .any, .no, .no, .no] D__law_right_1 okT _ := (stT_set (P := fun t => [.ow 0 t, .fz longs, .any, .any, .any, .any, .any, .no, .no, .any, .any, .any, .any, .any, .any, .any, .any, .any, .no, .no, .no]) (t := tin) (bt_fz (bt_lc (bt_of fun _ => (bi_sq (be_var (i := 1) rfl))) (fun _ => rfl) (fun _ => rfl) (fun _ _ => rfl) (turnT_name (fun own => (bt_callT (i := 0) u__law_take (fun _ => rfl) (bat_of fun _ => (ba_cons (be_var (i := 19) rfl) ba_nil)) (fun _ => rfl) (fun _ _ => rfl))) (fun _ _ => WK.refl _)))) (Q' := fun rests t_2 => [.ow 0 t_2, .fz longs, .fz rests, .any, .any, .any, .any, .no, .no, .any, .any, .any, .any, .any, .any, .any, .any, .any, .no, .no, .no]) (fun _ _ => rfl) (fun rests t_2 =>
 (stT_if (P := fun t_3 => [.ow 0 t_3, .fz longs, .fz rests, .any, .any, .any, .any, .no, .no, .any, .any, .any, .any, .any, .any, .any, .any, .any, .no, .no, .no]) (t := t_2) (bt_bl (bt_op (bt_callT (i := 0) u__law_take (fun _ => rfl) (bat_of fun _ => (ba_cons be_c ba_nil)) (fun _ => rfl) (fun _ _ => rfl)) (bt_of fun _ => be_c))) (fun t_4 =>
 (st_seq (stT_set (P := fun t_5 => [.ow 0 t_5, .fz longs, .fz rests, .any, .any, .any, .any, .no, .no, .any, .any, .any, .any, .any, .any, .any, .any, .any, .no, .no, .no]) (t := t_4) (bt_callT (i := 0) u__law_take (fun _ => rfl) (bat_of fun _ => (ba_cons be_c ba_nil)) (fun _ => rfl) (fun _ _ => rfl)) (Q' := fun lone t_6 => [.ow 0 t_6, .fz longs, .fz rests, .fz lone, .any, .any, .any, .no, .no, .any, .any, .any, .any, .any, .any, .any, .any, .any, .no, .no, .no]) (fun _ _ => rfl) (fun lone t_6 =>
 (st_set (be_fz (be_lc (bi_sq (be_var (i := 1) rfl)) rfl rfl (turn_name (fun own_1 => (be_op (be_var (i := 3) rfl) (be_var (i := 19) rfl))) (fun _ => WK.refl _)))) (Q := fun rests_2 => [.ow 0 t_6, .fz longs, .fz rests_2, .fz lone, .any, .any, .any, .no, .no, .any, .any, .any, .any, .any, .any, .any, .any, .any, .no, .no, .no]) (fun _ => rfl) (fun rests_2 =>
 (st_weak (wS (wS (wS (wA (wS (wS (wS (wS (wS (wS (wS (wS (wS (wS (wS (wS (wS (wS (wS (wS (wS .nil))))))))))))))))))))) (t__law_right_2 t_6 longs rests_2)))))))) (fun t_4 =>
 (st_nxt (st_weak (wS (wS (wS (wS (wS (wS (wS (wS (wS (wS (wS (wS (wS (wS (wS (wS (wS (wS (wS (wS (wS .nil))))))))))))))))))))) (t__law_right_2 t_4 longs rests)))))))
  exact h
theorem u__law_right : ∀ t xs, RefT (F__law_right t xs) (L__law_right t xs)
  | tin, [] => ru_T (p := [.ow 0 tin, .un, .un, .un, .un, .un, .un, .un, .un, .un, .un, .un, .un, .un, .un, .un, .un, .un, .un, .un, .un]) rfl rfl (by
    have h : ST [.ow 0 tin, .un, .un, .un, .un, .un, .un, .un, .un, .un, .un, .un, .un, .un, .un, .un, .un, .un, .un, .un, .un] D__law_right okT _ := (stT_set (P := fun t => [.ow 0 t, .un, .un, .un, .un, .un, .un, .un, .un, .un, .un, .un, .un, .un, .un, .un, .un, .un, .un, .un, .un]) (t := tin) (bt_fz (bt_lc (bt_of fun _ => (bi_r1 (ba_cons be_c ba_nil))) (fun _ => rfl) (fun _ => rfl) (fun _ _ => rfl) (turnT_name (fun k_ => (bt_op (bt_of fun _ => be_c) (bt_callT (i := 0) u__law_take (fun _ => rfl) (bat_of fun _ => (ba_cons be_c ba_nil)) (fun _ => rfl) (fun _ _ => rfl)))) (fun _ _ => WK.refl _)))) (Q' := fun longs t_2 => [.ow 0 t_2, .fz longs, .un, .un, .un, .un, .un, .un, .un, .un, .un, .un, .un, .un, .un, .un, .un, .un, .un, .un, .un]) (fun _ _ => rfl) (fun longs t_2 =>
 (stT_if (P := fun t_3 => [.ow 0 t_3, .fz longs, .un, .un, .un, .un, .un, .un, .un, .un, .un, .un, .un, .un, .un, .un, .un, .un, .un, .un, .un]) (t := t_2) (bt_bl (bt_op (bt_callT (i := 0) u__law_take (fun _ => rfl) (bat_of fun _ => (ba_cons be_c ba_nil)) (fun _ => rfl) (fun _ _ => rfl)) (bt_of fun _ => be_c))) (fun t_4 =>
 (stT_set (P := fun t_5 => [.ow 0 t_5, .fz longs, .un, .un, .un, .un, .un, .un, .un, .un, .un, .un, .un, .un, .un, .un, .un, .un, .un, .un, .un]) (t := t_4) (bt_fz (bt_ocb (bat_cons (bt_callT (i := 0) u__law_of (fun _ => rfl) (bat_of fun _ => (ba_cons (be_fz (be_lst (ba_cons (be_tup (ba_cons be_c (ba_cons be_c (ba_cons be_c ba_nil))) (by decide)) (ba_cons (be_tup (ba_cons be_c (ba_cons be_c (ba_cons be_c ba_nil))) (by decide)) (ba_cons (be_tup (ba_cons be_c (ba_cons be_c (ba_cons be_c ba_nil))) (by decide)) (ba_cons (be_tup (ba_cons be_c (ba_cons be_c (ba_cons be_c ba_nil))) (by decide)) (ba_cons (be_tup (ba_cons be_c (ba_cons be_c (ba_cons be_c ba_nil))) (by decide)) (ba_cons (be_tup (ba_cons be_c (ba_cons be_c (ba_cons be_c ba_nil))) (by decide)) (ba_cons (be_tup (ba_cons be_c (ba_cons be_c (ba_cons be_c ba_nil))) (by decide)) ba_nil))))))) (by decide))) ba_nil)) (fun _ => rfl) (fun _ _ => rfl)) (bat_of fun _ => ba_nil)))) (Q' := fun longs_2 t_6 => [.ow 0 t_6, .fz longs_2, .un, .un, .un, .un, .un, .un, .un, .un, .un, .un, .un, .un, .un, .un, .un, .un, .un, .un, .un]) (fun _ _ => rfl) (fun longs_2 t_6 =>
 (st_weak (wS (wS (wA (wA (wA (wA (wA (wU (wU (wA (wA (wA (wA (wA (wA (wA (wA (wA (wU (wU (wU .nil))))))))))))))))))))) (t__law_right_1 t_6 longs_2))))) (fun t_4 =>
 (st_nxt (st_weak (wS (wS (wA (wA (wA (wA (wA (wU (wU (wA (wA (wA (wA (wA (wA (wA (wA (wA (wU (wU (wU .nil))))))))))))))))))))) (t__law_right_1 t_4 longs)))))))
    exact h)
  | _, _ :: _ => trivial
theorem u_law : ∀ xs, RefF (F_law xs) (L_law xs)
  | [script] => ru_V (p := [.fz script, .un, .un, .un, .un]) rfl rfl (by
    have h : ST [.fz script, .un, .un, .un, .un] D_law okV _ := (st_set (be_call u__law_cells (ba_cons (be_var (i := 0) rfl) (ba_cons be_c ba_nil))) (Q := fun cells => [.fz script, .fz cells, .un, .un, .un]) (fun _ => rfl) (fun cells =>
 (st_find (r := [.fz script, .fz cells, .any, .any, .un]) (bi_r1 (ba_cons (be_cb (ba_cons (be_var (i := 1) rfl) ba_nil)) ba_nil)) (wS (wS (wA (wA (wS .nil))))) (tg_name (Q := fun n => [.fz script, .fz cells, .fz n, .any, .un]) (fun _ => rfl) (fun n =>
 (st_setO (be_ocall u__law_box (ba_cons (be_var (i := 1) rfl) (ba_cons (be_var (i := 2) rfl) ba_nil))) (Q := fun tin => [.fz script, .fz cells, .fz n, .ow 1 tin, .un]) (fun _ => rfl) (fun tin =>
 (st_last (stT_if (P := fun t => [.fz script, .fz cells, .fz n, .ow 1 t, .un]) (t := tin) (bt_no (bt_bl (bt_cb (bat_cons (bt_fz (bt_lc (bt_of fun _ => (bi_r1 (ba_cons be_c ba_nil))) (fun _ => rfl) (fun _ => rfl) (fun _ _ => rfl) (turnT_name (fun lap => (bt_callT (i := 3) u__law_right (fun _ => rfl) (bat_of fun _ => ba_nil) (fun _ => rfl) (fun _ _ => rfl))) (fun _ _ => WK.refl _)))) (bat_of fun _ => ba_nil))))) (fun t_2 =>
 (st_retS be_c (okF_rt okV_rt))) (fun t_2 =>
 (st_nxt (st_end (okF_nx (wS (wS (wA (wA (wS .nil)))))))))))))))
 (st_retG be_c okV_rt))))
    exact h)
  | [] => trivial
  | _ :: _ :: _ => trivial
end WK

set_option Elab.async false
set_option linter.all false
set_option maxRecDepth 100000
set_option maxHeartbeats 2000000
set_option pp.maxSteps 30
set_option pp.oneline true
namespace WK
open PySem PySem.Spec PyProof.Rows L2 DL
structure Gf (K : PySem.W.Frag) (mg : Str → Option Value) : Prop where
  B : Bt mg
  c_MOST_CHANNEL : ∃ t, mg "MOST_CHANNEL" = some (.int 30 t)
  c_MOST_ROW : ∃ t, mg "MOST_ROW" = some (.int 400 t)
  c_MOST_WHO : ∃ t, mg "MOST_WHO" = some (.int 5 t)
  c_MOST_TOGETHER : ∃ t, mg "MOST_TOGETHER" = some (.int 100000 t)
  r_CanNot : Er K mg "CanNot"
  r_TooMany : Er K mg "TooMany"
  r_Unfit : Er K mg "Unfit"
  t_CanNot : Ec K mg "CanNot"
  vE : mg "ValueError" = none

theorem sc_is_number : FnScope (["thing"] : List PySem.Str) ["thing"] (defScope (top 5)) := ⟨rfl, rfl, rfl, by decide +kernel, rfl, by decide +kernel, by decide +kernel⟩
theorem h_is_number {K : PySem.W.Frag} {mg : Str → Option Value} {P : Program} {w : World} {base : Heap} (G : Gf K mg) {f : Addr} {fd : FuncData} (F : FunD K "is_number" "is_number" (defArgs (top 5)) (defBody (top 5)) (defScope (top 5)) [] [] f fd) (gf : mg "is_number" = some (.ref f))  : Has P w K mg base "is_number" 1 F_is_number :=
  ⟨f, fd, ["thing"], gf, F.kp, F.bindsN fun _ _ _ _ _ _ us hl => match us, hl with | [_], _ => rfl, fn_pure F sc_is_number D_is_number (fun cdv A outer s H E hr => by
    have tk := takes_of (X := CXo P w K mg base ["thing"] "is_number" (defScope (top 5)) f cdv A outer s H E) rfl rfl rfl rfl
    have po := passes_of (X := CXo P w K mg base ["thing"] "is_number" (defScope (top 5)) f cdv A outer s H E) rfl
    have nd := sc_is_number.nd
    have z : ∃ t, DSs (CXo P w K mg base ["thing"] "is_number" (defScope (top 5)) f cdv A outer s H E) (WEE E) (defBody (top 5)) t  D_is_number := ⟨_, (z_one (k_ret (e_and (e_isi1 G.B .int (e_var 0) bb_int G.B.int) (e_one (e_not (e_isi1 G.B .bool (e_var 0) bb_bool G.B.bool))))))⟩
    obtain ⟨t, z⟩ := z
    exact ⟨t, z.p, z.w⟩)⟩

theorem sc_is_long : FnScope (["thing", "length"] : List PySem.Str) ["thing", "length"] (defScope (top 8)) := ⟨rfl, rfl, rfl, by decide +kernel, rfl, by decide +kernel, by decide +kernel⟩
theorem h_is_long {K : PySem.W.Frag} {mg : Str → Option Value} {P : Program} {w : World} {base : Heap} (G : Gf K mg) {f : Addr} {fd : FuncData} (F : FunD K "is_long" "is_long" (defArgs (top 8)) (defBody (top 8)) (defScope (top 8)) [] [] f fd) (gf : mg "is_long" = some (.ref f))  : Has P w K mg base "is_long" 1 F_is_long :=
  ⟨f, fd, ["thing", "length"], gf, F.kp, F.bindsN fun _ _ _ _ _ _ us hl => match us, hl with | [_, _], _ => rfl, fn_pure F sc_is_long D_is_long (fun cdv A outer s H E hr => by
    have tk := takes_of (X := CXo P w K mg base ["thing", "length"] "is_long" (defScope (top 8)) f cdv A outer s H E) rfl rfl rfl rfl
    have po := passes_of (X := CXo P w K mg base ["thing", "length"] "is_long" (defScope (top 8)) f cdv A outer s H E) rfl
    have nd := sc_is_long.nd
    have z : ∃ t, DSs (CXo P w K mg base ["thing", "length"] "is_long" (defScope (top 8)) f cdv A outer s H E) (WEE E) (defBody (top 8)) t  D_is_long := ⟨_, (z_one (k_ret (e_and (e_isi1 G.B .tuple (e_var 0) bb_tuple G.B.tuple) (e_one (e_eq hr (e_len G.B (a_cons (e_var 0) a_nil)) (e_var 1))))))⟩
    obtain ⟨t, z⟩ := z
    exact ⟨t, z.p, z.w⟩)⟩

theorem sc_common : FnScope (["one", "other"] : List PySem.Str) ["one", "other"] (defScope (top 10)) := ⟨rfl, rfl, rfl, by decide +kernel, rfl, by decide +kernel, by decide +kernel⟩
theorem h_common {K : PySem.W.Frag} {mg : Str → Option Value} {P : Program} {w : World} {base : Heap} (G : Gf K mg) {f : Addr} {fd : FuncData} (F : FunD K "common" "common" (defArgs (top 10)) (defBody (top 10)) (defScope (top 10)) [] [] f fd) (gf : mg "common" = some (.ref f))  : Has P w K mg base "common" 1 F_common :=
  ⟨f, fd, ["one", "other"], gf, F.kp, F.bindsN fun _ _ _ _ _ _ us hl => match us, hl with | [_, _], _ => rfl, fn_pure F sc_common D_common (fun cdv A outer s H E hr => by
    have tk := takes_of (X := CXo P w K mg base ["one", "other"] "common" (defScope (top 10)) f cdv A outer s H E) rfl rfl rfl rfl
    have po := passes_of (X := CXo P w K mg base ["one", "other"] "common" (defScope (top 10)) f cdv A outer s H E) rfl
    have nd := sc_common.nd
    have z : ∃ t, DSs (CXo P w K mg base ["one", "other"] "common" (defScope (top 10)) f cdv A outer s H E) (WEE E) (defBody (top 10)) t  D_common := ⟨_, (z_cons (k_par 0 1 nd (a_cons (e_abs G.B (a_cons (e_var 0) a_nil)) (a_cons (e_abs G.B (a_cons (e_var 1) a_nil)) a_nil)))
    (z_cons (k_while 100000 po (t_ne hr (e_var 1) e_int) (z_one (k_par 0 1 nd (a_cons (e_var 1) (a_cons (e_mod (e_var 0) (e_var 1)) a_nil)))))
    (z_one (k_ret (e_var 0)))))⟩
    obtain ⟨t, z⟩ := z
    exact ⟨t, z.p, z.w⟩)⟩

theorem sc_channels_in : FnScope (["row"] : List PySem.Str) ["row"] (defScope (top 16)) := ⟨rfl, rfl, rfl, by decide +kernel, rfl, by decide +kernel, by decide +kernel⟩
theorem h_channels_in {K : PySem.W.Frag} {mg : Str → Option Value} {P : Program} {w : World} {base : Heap} (G : Gf K mg) {f : Addr} {fd : FuncData} (F : FunD K "channels_in" "channels_in" (defArgs (top 16)) (defBody (top 16)) (defScope (top 16)) [] [] f fd) (gf : mg "channels_in" = some (.ref f))  : Has P w K mg base "channels_in" 1 F_channels_in :=
  ⟨f, fd, ["row"], gf, F.kp, F.bindsN fun _ _ _ _ _ _ us hl => match us, hl with | [_], _ => rfl, fn_pure F sc_channels_in D_channels_in (fun cdv A outer s H E hr => by
    have tk := takes_of (X := CXo P w K mg base ["row"] "channels_in" (defScope (top 16)) f cdv A outer s H E) rfl rfl rfl rfl
    have po := passes_of (X := CXo P w K mg base ["row"] "channels_in" (defScope (top 16)) f cdv A outer s H E) rfl
    have nd := sc_channels_in.nd
    have z : ∃ t, DSs (CXo P w K mg base ["row"] "channels_in" (defScope (top 16)) f cdv A outer s H E) (WEE E) (defBody (top 16)) t  D_channels_in := ⟨_, (z_one (k_ret (e_tuple G.B (a_cons (e_fz (x_ss G.B (by rfl) (e_var 0))) a_nil))))⟩
    obtain ⟨t, z⟩ := z
    exact ⟨t, z.p, z.w⟩)⟩

theorem sc_all_time_in : FnScope (["rows", "phases", "many", "slot", "here", "row", "phase"] : List PySem.Str) ["rows", "phases", "many"] (defScope (top 30)) := ⟨rfl, rfl, rfl, by decide +kernel, rfl, by decide +kernel, by decide +kernel⟩
theorem h_all_time_in {K : PySem.W.Frag} {mg : Str → Option Value} {P : Program} {w : World} {base : Heap} (G : Gf K mg) {f : Addr} {fd : FuncData} (F : FunD K "all_time_in" "all_time_in" (defArgs (top 30)) (defBody (top 30)) (defScope (top 30)) [] [] f fd) (gf : mg "all_time_in" = some (.ref f))  : Has P w K mg base "all_time_in" 1 F_all_time_in :=
  ⟨f, fd, ["rows", "phases", "many"], gf, F.kp, F.bindsN fun _ _ _ _ _ _ us hl => match us, hl with | [_, _, _], _ => rfl, fn_pure F sc_all_time_in D_all_time_in (fun cdv A outer s H E hr => by
    have tk := takes_of (X := CXo P w K mg base ["rows", "phases", "many", "slot", "here", "row", "phase"] "all_time_in" (defScope (top 30)) f cdv A outer s H E) rfl rfl rfl rfl
    have po := passes_of (X := CXo P w K mg base ["rows", "phases", "many", "slot", "here", "row", "phase"] "all_time_in" (defScope (top 30)) f cdv A outer s H E) rfl
    have nd := sc_all_time_in.nd
    have z : ∃ t, DSs (CXo P w K mg base ["rows", "phases", "many", "slot", "here", "row", "phase"] "all_time_in" (defScope (top 30)) f cdv A outer s H E) (WEE E) (defBody (top 30)) t  D_all_time_in := ⟨_, (z_cons (k_for po (j_r1 G.B (a_cons (e_var 2) a_nil)) (n_name 3 nd) (z_cons (k_lc 4 [("row", 5), ("phase", 6)] (g := (gTup K 2 (gCons (gName 5) (gCons (gName 6) gNil)))) (tt := tYes) (te := (tOp (rIx K) (tVar 5) (tOp (rI (fun _ j => 0 < j) fun i j => .int (i % j)) (tOp (rAddU K) (tVar 6) (tVar 3)) (tCB (rLn K) (tCons (tVar 5) tNil))))) nd (j_zp G.B (a_cons (e_var 0) (a_cons (e_var 1) a_nil))) (fun _ _ _ _ _ => by exact (v_tp (by rfl) (v_cn (v_nm 5 nd) (v_cn (v_nm 6 nd) v_nl)))) (fun _ _ _ _ _ => by exact y_nil) (fun _ _ _ _ _ => by exact (e_ix (e_var 5) (e_mod (e_add (e_var 6) (e_var 3)) (e_len G.B (a_cons (e_var 5) a_nil))))) (blkOk_by (by rfl)) (by rfl))
    (z_one (k_if (t_eq hr (e_minL G.B (by rfl) (a_cons (e_var 4) a_nil)) (e_maxL G.B (by rfl) (a_cons (e_var 4) a_nil))) (z_one (k_ret (e_add (e_var 3) e_int))) z_nil))))
    (z_one (k_ret e_non)))⟩
    obtain ⟨t, z⟩ := z
    exact ⟨t, z.p, z.w⟩)⟩

theorem sc_contrary_by : FnScope (["number", "length", "own"] : List PySem.Str) ["number", "length"] (defScope (top 36)) := ⟨rfl, rfl, rfl, by decide +kernel, rfl, by decide +kernel, by decide +kernel⟩
theorem h_contrary_by {K : PySem.W.Frag} {mg : Str → Option Value} {P : Program} {w : World} {base : Heap} (G : Gf K mg) {f : Addr} {fd : FuncData} (F : FunD K "contrary_by" "contrary_by" (defArgs (top 36)) (defBody (top 36)) (defScope (top 36)) [] [] f fd) (gf : mg "contrary_by" = some (.ref f))  : Has P w K mg base "contrary_by" 1 F_contrary_by :=
  ⟨f, fd, ["number", "length"], gf, F.kp, F.bindsN fun _ _ _ _ _ _ us hl => match us, hl with | [_, _], _ => rfl, fn_pure F sc_contrary_by D_contrary_by (fun cdv A outer s H E hr => by
    have tk := takes_of (X := CXo P w K mg base ["number", "length", "own"] "contrary_by" (defScope (top 36)) f cdv A outer s H E) rfl rfl rfl rfl
    have po := passes_of (X := CXo P w K mg base ["number", "length", "own"] "contrary_by" (defScope (top 36)) f cdv A outer s H E) rfl
    have nd := sc_contrary_by.nd
    have z : ∃ t, DSs (CXo P w K mg base ["number", "length", "own"] "contrary_by" (defScope (top 36)) f cdv A outer s H E) (WEE E) (defBody (top 36)) t  D_contrary_by := ⟨_, (z_one (k_ret (e_ix (e_fz (x_lc [("own", 2)] (g := (gName 2)) (tt := (tTest (tOp (rEqD K) (tOp (rI (fun _ j => 0 < j) fun i j => .int (i % j)) (tOp (rMulU K) (tVar 2) (tVar 0)) (tVar 1)) (tOp (rI (fun _ j => 0 < j) fun i j => .int (i % j)) (tC (.int 1)) (tVar 1))))) (te := (tVar 2)) nd (j_r1 G.B (a_cons (e_var 1) a_nil)) (fun _ _ _ _ _ => by exact (v_nm 2 nd)) (fun _ _ _ _ _ => by exact (y_one (t_eq hr (e_mod (e_mul (e_var 2) (e_var 0)) (e_var 1)) (e_mod e_int (e_var 1))))) (fun _ _ _ _ _ => by exact (e_var 2)) (blkOk_by (by rfl)))) e_int)))⟩
    obtain ⟨t, z⟩ := z
    exact ⟨t, z.p, z.w⟩)⟩

theorem sc__law_box : FnScope (["script", "k", "bit_so"] : List PySem.Str) ["script", "k"] (defScope (top 40)) := ⟨rfl, rfl, rfl, by decide +kernel, rfl, by decide +kernel, by decide +kernel⟩
theorem h__law_box {K : PySem.W.Frag} {mg : Str → Option Value} {P : Program} {w : World} {base : Heap} (G : Gf K mg) {f : Addr} {fd : FuncData} (F : FunD K "_law_box" "_law_box" (defArgs (top 40)) (defBody (top 40)) (defScope (top 40)) [] [] f fd) (gf : mg "_law_box" = some (.ref f))  : Has P w K mg base "_law_box" 1 F__law_box :=
  ⟨f, fd, ["script", "k"], gf, F.kp, F.bindsN fun _ _ _ _ _ _ us hl => match us, hl with | [_, _], _ => rfl, fn_pure F sc__law_box D__law_box (fun cdv A outer s H E hr => by
    have tk := takes_of (X := CXo P w K mg base ["script", "k", "bit_so"] "_law_box" (defScope (top 40)) f cdv A outer s H E) rfl rfl rfl rfl
    have po := passes_of (X := CXo P w K mg base ["script", "k", "bit_so"] "_law_box" (defScope (top 40)) f cdv A outer s H E) rfl
    have nd := sc__law_box.nd
    have z : ∃ t, DSs (CXo P w K mg base ["script", "k", "bit_so"] "_law_box" (defScope (top 40)) f cdv A outer s H E) (WEE E) (defBody (top 40)) t  D__law_box := ⟨_, (z_cons (k_set 2 nd (e_if (t_lt (e_var 1) (e_len G.B (a_cons (e_var 0) a_nil))) (e_ix (e_var 0) (e_var 1)) e_int))
    (z_one (k_retO (x_lst (a_cons (e_mul (e_abs G.B (a_cons (e_var 2) a_nil)) (e_int1 G.B (a_cons (e_ge (e_abs G.B (a_cons (e_var 2) a_nil)) (e_pow e_int e_int)) a_nil))) (a_cons (e_add (e_add (e_mod (e_int1 G.B (a_cons (e_var 2) a_nil)) e_int) (e_mul e_int (e_var 1))) e_int) (a_cons e_int a_nil)))))))⟩
    obtain ⟨t, z⟩ := z
    exact ⟨t, z.p, z.w⟩)⟩

theorem sc__law_take : FnScope (["tin", "below_so", "drawn_so", "once_so", "wide_so", "twice_so"] : List PySem.Str) ["tin", "below_so"] (defScope (top 41)) := ⟨rfl, rfl, rfl, by decide +kernel, rfl, by decide +kernel, by decide +kernel⟩
theorem h__law_take {K : PySem.W.Frag} {mg : Str → Option Value} {P : Program} {w : World} {base : Heap} (G : Gf K mg) {f : Addr} {fd : FuncData} (F : FunD K "_law_take" "_law_take" (defArgs (top 41)) (defBody (top 41)) (defScope (top 41)) [] [] f fd) (gf : mg "_law_take" = some (.ref f))  : HasT P w K mg base "_law_take" 1 F__law_take :=
  ⟨f, fd, ["tin", "below_so"], gf, F.kp, F.bindsN fun _ _ _ _ _ _ us hl => match us, hl with | [_, _], _ => rfl, fn_tin F sc__law_take D__law_take (fun cdv A outer s H E hr => by
    have tk := takes_of (X := CXo P w K mg base ["tin", "below_so", "drawn_so", "once_so", "wide_so", "twice_so"] "_law_take" (defScope (top 41)) f cdv A outer s H E) rfl rfl rfl rfl
    have po := passes_of (X := CXo P w K mg base ["tin", "below_so", "drawn_so", "once_so", "wide_so", "twice_so"] "_law_take" (defScope (top 41)) f cdv A outer s H E) rfl
    have nd := sc__law_take.nd
    have z : ∃ t, DSs (CXo P w K mg base ["tin", "below_so", "drawn_so", "once_so", "wide_so", "twice_so"] "_law_take" (defScope (top 41)) f cdv A outer s H E) (WEE E) (defBody (top 41)) t  D__law_take := ⟨_, (z_cons (k_if (t_gt (e_ixV 0 e_int) e_int) (z_cons (k_set 2 nd (e_mod (e_int1 G.B (a_cons (e_ixV 0 e_int) a_nil)) (e_var 1)))
    (z_cons (k_putL 0 (e_fdiv (e_ixV 0 e_int) (e_var 1)) e_int)
    (z_one (k_ret (e_var 2))))) z_nil)
    (z_cons (k_putL 0 (e_add (e_ixV 0 e_int) e_int) e_int)
    (z_cons (k_set 3 nd (e_mod (e_int1 G.B (a_cons (e_mul (e_add (e_ixV 0 e_int) (e_mul e_int (e_ixV 0 e_int))) (e_add e_int (e_ixV 0 e_int))) a_nil)) e_int))
    (z_cons (k_set 4 nd (e_add (e_mod (e_int1 G.B (a_cons (e_var 3) a_nil)) e_int) e_int))
    (z_cons (k_set 5 nd (e_mod (e_int1 G.B (a_cons (e_mul (e_add (e_add (e_var 3) (e_ixV 0 e_int)) (e_fdiv (e_ixV 0 e_int) e_int)) (e_var 4)) a_nil)) e_int))
    (z_one (k_ret (e_mod (e_int1 G.B (a_cons (e_fdiv (e_mod (e_int1 G.B (a_cons (e_add (e_mul (e_var 5) e_int) (e_var 3)) a_nil)) e_int) e_int) a_nil)) (e_var 1)))))))))⟩
    obtain ⟨t, z⟩ := z
    exact ⟨t, z.p, z.w⟩)⟩

theorem sc__law_cells : FnScope (["script", "most_so", "cells_so", "k", "bit_so", "at_so"] : List PySem.Str) ["script", "most_so"] (defScope (top 42)) := ⟨rfl, rfl, rfl, by decide +kernel, rfl, by decide +kernel, by decide +kernel⟩
theorem h__law_cells {K : PySem.W.Frag} {mg : Str → Option Value} {P : Program} {w : World} {base : Heap} (G : Gf K mg) {f : Addr} {fd : FuncData} (F : FunD K "_law_cells" "_law_cells" (defArgs (top 42)) (defBody (top 42)) (defScope (top 42)) [] [] f fd) (gf : mg "_law_cells" = some (.ref f))  : Has P w K mg base "_law_cells" 1 F__law_cells :=
  ⟨f, fd, ["script", "most_so"], gf, F.kp, F.bindsN fun _ _ _ _ _ _ us hl => match us, hl with | [_, _], _ => rfl, fn_pure F sc__law_cells D__law_cells (fun cdv A outer s H E hr => by
    have tk := takes_of (X := CXo P w K mg base ["script", "most_so", "cells_so", "k", "bit_so", "at_so"] "_law_cells" (defScope (top 42)) f cdv A outer s H E) rfl rfl rfl rfl
    have po := passes_of (X := CXo P w K mg base ["script", "most_so", "cells_so", "k", "bit_so", "at_so"] "_law_cells" (defScope (top 42)) f cdv A outer s H E) rfl
    have nd := sc__law_cells.nd
    have z : ∃ t, DSs (CXo P w K mg base ["script", "most_so", "cells_so", "k", "bit_so", "at_so"] "_law_cells" (defScope (top 42)) f cdv A outer s H E) (WEE E) (defBody (top 42)) t  D__law_cells := ⟨_, (z_cons (k_setO 2 nd (x_or (x_list G.B (a_cons (e_sl (e_var 0) p_non (p_som (e_var 1))) a_nil)) (x_lst (a_cons e_int a_nil))))
    (z_cons (k_for po (j_en G.B (a_cons (e_sl (e_var 0) (p_som (e_var 1)) (p_som e_int)) a_nil)) (n_tup (by rfl) (n_cons (n_name 3 nd) (n_cons (n_name 4 nd) n_nil))) (z_cons (k_set 5 nd (e_mod (e_int1 G.B (a_cons (e_var 3) a_nil)) (e_var 1)))
    (z_one (k_putL 2 (e_add (e_ixV 2 (e_var 5)) (e_mul (e_var 4) (e_add (e_var 3) e_int))) (e_var 5)))))
    (z_one (k_ret (e_var 2)))))⟩
    obtain ⟨t, z⟩ := z
    exact ⟨t, z.p, z.w⟩)⟩

theorem sc__law_common_b : FnScope (["a", "b", "lap"] : List PySem.Str) ["a", "b"] (defScope (top 45)) := ⟨rfl, rfl, rfl, by decide +kernel, rfl, by decide +kernel, by decide +kernel⟩
theorem h__law_common_b {K : PySem.W.Frag} {mg : Str → Option Value} {P : Program} {w : World} {base : Heap} (G : Gf K mg) {f : Addr} {fd : FuncData} (F : FunD K "_law_common" "_law_common" (defArgs (top 45)) (defBody (top 45)) (defScope (top 45)) [] [] f fd) (gf : mg "_law_common" = some (.ref f))  : Has P w K mg base "_law_common" 1 F__law_common_b :=
  ⟨f, fd, ["a", "b"], gf, F.kp, F.bindsN fun _ _ _ _ _ _ us hl => match us, hl with | [_, _], _ => rfl, fn_pure F sc__law_common_b D__law_common_b (fun cdv A outer s H E hr => by
    have tk := takes_of (X := CXo P w K mg base ["a", "b", "lap"] "_law_common" (defScope (top 45)) f cdv A outer s H E) rfl rfl rfl rfl
    have po := passes_of (X := CXo P w K mg base ["a", "b", "lap"] "_law_common" (defScope (top 45)) f cdv A outer s H E) rfl
    have nd := sc__law_common_b.nd
    have z : ∃ t, DSs (CXo P w K mg base ["a", "b", "lap"] "_law_common" (defScope (top 45)) f cdv A outer s H E) (WEE E) (defBody (top 45)) t  D__law_common_b := ⟨_, (z_cons (k_for po (j_r1 G.B (a_cons e_int a_nil)) (n_name 2 nd) (z_cons (k_if (t_eq hr (e_var 1) e_int) (z_one k_break) z_nil)
    (z_one (k_par 0 1 nd (a_cons (e_var 1) (a_cons (e_mod (e_var 0) (e_var 1)) a_nil))))))
    (z_one (k_ret (e_var 0))))⟩
    obtain ⟨t, z⟩ := z
    exact ⟨t, z.p, z.w⟩)⟩

theorem sc_is_within : FnScope (["thing", "least", "most"] : List PySem.Str) ["thing", "least", "most"] (defScope (top 6)) := ⟨rfl, rfl, rfl, by decide +kernel, rfl, by decide +kernel, by decide +kernel⟩
theorem h_is_within {K : PySem.W.Frag} {mg : Str → Option Value} {P : Program} {w : World} {base : Heap} (G : Gf K mg) {f : Addr} {fd : FuncData} (F : FunD K "is_within" "is_within" (defArgs (top 6)) (defBody (top 6)) (defScope (top 6)) [] [] f fd) (gf : mg "is_within" = some (.ref f)) (h_is_number : Has P w K mg base "is_number" 1 F_is_number) : Has P w K mg base "is_within" 2 F_is_within :=
  ⟨f, fd, ["thing", "least", "most"], gf, F.kp, F.bindsN fun _ _ _ _ _ _ us hl => match us, hl with | [_, _, _], _ => rfl, fn_pure F sc_is_within D_is_within (fun cdv A outer s H E hr => by
    have tk := takes_of (X := CXo P w K mg base ["thing", "least", "most"] "is_within" (defScope (top 6)) f cdv A outer s H E) rfl rfl rfl rfl
    have po := passes_of (X := CXo P w K mg base ["thing", "least", "most"] "is_within" (defScope (top 6)) f cdv A outer s H E) rfl
    have nd := sc_is_within.nd
    have z : ∃ t, DSs (CXo P w K mg base ["thing", "least", "most"] "is_within" (defScope (top 6)) f cdv A outer s H E) (WEE E) (defBody (top 6)) t  D_is_within := ⟨_, (z_one (k_ret (e_and (e_call h_is_number hr tk (a_cons (e_var 0) a_nil)) (e_one (e_lele (e_var 1) (e_var 0) (e_var 2))))))⟩
    obtain ⟨t, z⟩ := z
    exact ⟨t, z.p, z.w⟩)⟩

theorem sc_together_in : FnScope (["one", "other"] : List PySem.Str) ["one", "other"] (defScope (top 17)) := ⟨rfl, rfl, rfl, by decide +kernel, rfl, by decide +kernel, by decide +kernel⟩
theorem h_together_in {K : PySem.W.Frag} {mg : Str → Option Value} {P : Program} {w : World} {base : Heap} (G : Gf K mg) {f : Addr} {fd : FuncData} (F : FunD K "together_in" "together_in" (defArgs (top 17)) (defBody (top 17)) (defScope (top 17)) [] [] f fd) (gf : mg "together_in" = some (.ref f)) (h_common : Has P w K mg base "common" 1 F_common) : Has P w K mg base "together_in" 2 F_together_in :=
  ⟨f, fd, ["one", "other"], gf, F.kp, F.bindsN fun _ _ _ _ _ _ us hl => match us, hl with | [_, _], _ => rfl, fn_pure F sc_together_in D_together_in (fun cdv A outer s H E hr => by
    have tk := takes_of (X := CXo P w K mg base ["one", "other"] "together_in" (defScope (top 17)) f cdv A outer s H E) rfl rfl rfl rfl
    have po := passes_of (X := CXo P w K mg base ["one", "other"] "together_in" (defScope (top 17)) f cdv A outer s H E) rfl
    have nd := sc_together_in.nd
    have z : ∃ t, DSs (CXo P w K mg base ["one", "other"] "together_in" (defScope (top 17)) f cdv A outer s H E) (WEE E) (defBody (top 17)) t  D_together_in := ⟨_, (z_one (k_ret (e_mul (e_fdiv (e_len G.B (a_cons (e_var 0) a_nil)) (e_call h_common hr tk (a_cons (e_len G.B (a_cons (e_var 0) a_nil)) (a_cons (e_len G.B (a_cons (e_var 1) a_nil)) a_nil)))) (e_len G.B (a_cons (e_var 1) a_nil)))))⟩
    obtain ⟨t, z⟩ := z
    exact ⟨t, z.p, z.w⟩)⟩

theorem sc_round_of : FnScope (["rows", "found", "row"] : List PySem.Str) ["rows"] (defScope (top 28)) := ⟨rfl, rfl, rfl, by decide +kernel, rfl, by decide +kernel, by decide +kernel⟩
theorem h_round_of {K : PySem.W.Frag} {mg : Str → Option Value} {P : Program} {w : World} {base : Heap} (G : Gf K mg) {f : Addr} {fd : FuncData} (F : FunD K "round_of" "round_of" (defArgs (top 28)) (defBody (top 28)) (defScope (top 28)) [] [] f fd) (gf : mg "round_of" = some (.ref f)) (h_common : Has P w K mg base "common" 1 F_common) : Has P w K mg base "round_of" 2 F_round_of :=
  ⟨f, fd, ["rows"], gf, F.kp, F.bindsN fun _ _ _ _ _ _ us hl => match us, hl with | [_], _ => rfl, fn_pure F sc_round_of D_round_of (fun cdv A outer s H E hr => by
    have tk := takes_of (X := CXo P w K mg base ["rows", "found", "row"] "round_of" (defScope (top 28)) f cdv A outer s H E) rfl rfl rfl rfl
    have po := passes_of (X := CXo P w K mg base ["rows", "found", "row"] "round_of" (defScope (top 28)) f cdv A outer s H E) rfl
    have nd := sc_round_of.nd
    have z : ∃ t, DSs (CXo P w K mg base ["rows", "found", "row"] "round_of" (defScope (top 28)) f cdv A outer s H E) (WEE E) (defBody (top 28)) t  D_round_of := ⟨_, (z_cons (k_set 1 nd e_int)
    (z_cons (k_for po (j_seq (e_var 0)) (n_name 2 nd) (z_one (k_set 1 nd (e_mul (e_fdiv (e_var 1) (e_call h_common hr tk (a_cons (e_var 1) (a_cons (e_len G.B (a_cons (e_var 2) a_nil)) a_nil)))) (e_len G.B (a_cons (e_var 2) a_nil))))))
    (z_cons (k_if (t_gt (e_var 1) (e_gint G.c_MOST_TOGETHER)) (z_one (k_raise tk G.r_TooMany)) z_nil)
    (z_one (k_ret (e_var 1))))))⟩
    obtain ⟨t, z⟩ := z
    exact ⟨t, z.p, z.w⟩)⟩

theorem sc__law_of : FnScope (["tin", "goods_so"] : List PySem.Str) ["tin", "goods_so"] (defScope (top 43)) := ⟨rfl, rfl, rfl, by decide +kernel, rfl, by decide +kernel, by decide +kernel⟩
theorem h__law_of {K : PySem.W.Frag} {mg : Str → Option Value} {P : Program} {w : World} {base : Heap} (G : Gf K mg) {f : Addr} {fd : FuncData} (F : FunD K "_law_of" "_law_of" (defArgs (top 43)) (defBody (top 43)) (defScope (top 43)) [] [] f fd) (gf : mg "_law_of" = some (.ref f)) (h__law_take : HasT P w K mg base "_law_take" 1 F__law_take) : HasT P w K mg base "_law_of" 2 F__law_of :=
  ⟨f, fd, ["tin", "goods_so"], gf, F.kp, F.bindsN fun _ _ _ _ _ _ us hl => match us, hl with | [_, _], _ => rfl, fn_tin F sc__law_of D__law_of (fun cdv A outer s H E hr => by
    have tk := takes_of (X := CXo P w K mg base ["tin", "goods_so"] "_law_of" (defScope (top 43)) f cdv A outer s H E) rfl rfl rfl rfl
    have po := passes_of (X := CXo P w K mg base ["tin", "goods_so"] "_law_of" (defScope (top 43)) f cdv A outer s H E) rfl
    have nd := sc__law_of.nd
    have z : ∃ t, DSs (CXo P w K mg base ["tin", "goods_so"] "_law_of" (defScope (top 43)) f cdv A outer s H E) (WEE E) (defBody (top 43)) t  D__law_of := ⟨_, (z_one (k_ret (e_ix (e_var 1) (e_callT 0 h__law_take hr tk (a_cons (e_len G.B (a_cons (e_var 1) a_nil)) a_nil)))))⟩
    obtain ⟨t, z⟩ := z
    exact ⟨t, z.p, z.w⟩)⟩

theorem sc__law_least : FnScope (["longs_so", "rests_so", "most_so", "own", "t"] : List PySem.Str) ["longs_so", "rests_so"] (defScope (top 47)) := ⟨rfl, rfl, rfl, by decide +kernel, rfl, by decide +kernel, by decide +kernel⟩
theorem h__law_least {K : PySem.W.Frag} {mg : Str → Option Value} {P : Program} {w : World} {base : Heap} (G : Gf K mg) {f : Addr} {fd : FuncData} (F : FunD K "_law_least" "_law_least" (defArgs (top 47)) (defBody (top 47)) (defScope (top 47)) [] [] f fd) (gf : mg "_law_least" = some (.ref f)) (h__law_common_b : Has P w K mg base "_law_common" 1 F__law_common_b) : Has P w K mg base "_law_least" 2 F__law_least :=
  ⟨f, fd, ["longs_so", "rests_so"], gf, F.kp, F.bindsN fun _ _ _ _ _ _ us hl => match us, hl with | [_, _], _ => rfl, fn_pure F sc__law_least D__law_least (fun cdv A outer s H E hr => by
    have tk := takes_of (X := CXo P w K mg base ["longs_so", "rests_so", "most_so", "own", "t"] "_law_least" (defScope (top 47)) f cdv A outer s H E) rfl rfl rfl rfl
    have po := passes_of (X := CXo P w K mg base ["longs_so", "rests_so", "most_so", "own", "t"] "_law_least" (defScope (top 47)) f cdv A outer s H E) rfl
    have nd := sc__law_least.nd
    have z : ∃ t, DSs (CXo P w K mg base ["longs_so", "rests_so", "most_so", "own", "t"] "_law_least" (defScope (top 47)) f cdv A outer s H E) (WEE E) (defBody (top 47)) t  D__law_least := ⟨_, (z_cons (k_set 2 nd e_int)
    (z_cons (k_for po (j_seq (e_var 0)) (n_name 3 nd) (z_one (k_set 2 nd (e_mul (e_fdiv (e_var 2) (e_call h__law_common_b hr tk (a_cons (e_var 2) (a_cons (e_var 3) a_nil)))) (e_var 3)))))
    (z_cons (k_for po (j_r1 G.B (a_cons (e_var 2) a_nil)) (n_name 4 nd) (z_one (k_if (t_eq hr (e_fz (x_lc [("own", 3)] (g := (gName 3)) (tt := tYes) (te := (tOp (rI (fun _ j => 0 < j) fun i j => .int (i % j)) (tVar 4) (tVar 3))) nd (j_seq (e_var 0)) (fun _ _ _ _ _ => by exact (v_nm 3 nd)) (fun _ _ _ _ _ => by exact y_nil) (fun _ _ _ _ _ => by exact (e_mod (e_var 4) (e_var 3))) (blkOk_by (by rfl)))) (e_fz (x_list G.B (a_cons (e_var 1) a_nil)))) (z_one (k_ret (e_var 4))) z_nil)))
    (z_one (k_ret e_non)))))⟩
    obtain ⟨t, z⟩ := z
    exact ⟨t, z.p, z.w⟩)⟩

theorem sc__law_both : FnScope (["near", "far"] : List PySem.Str) ["near", "far"] (defScope (top 48)) := ⟨rfl, rfl, rfl, by decide +kernel, rfl, by decide +kernel, by decide +kernel⟩
theorem h__law_both {K : PySem.W.Frag} {mg : Str → Option Value} {P : Program} {w : World} {base : Heap} (G : Gf K mg) {f : Addr} {fd : FuncData} (F : FunD K "_law_both" "_law_both" (defArgs (top 48)) (defBody (top 48)) (defScope (top 48)) [] [] f fd) (gf : mg "_law_both" = some (.ref f)) (h__law_common_b : Has P w K mg base "_law_common" 1 F__law_common_b) : Has P w K mg base "_law_both" 2 F__law_both :=
  ⟨f, fd, ["near", "far"], gf, F.kp, F.bindsN fun _ _ _ _ _ _ us hl => match us, hl with | [_, _], _ => rfl, fn_pure F sc__law_both D__law_both (fun cdv A outer s H E hr => by
    have tk := takes_of (X := CXo P w K mg base ["near", "far"] "_law_both" (defScope (top 48)) f cdv A outer s H E) rfl rfl rfl rfl
    have po := passes_of (X := CXo P w K mg base ["near", "far"] "_law_both" (defScope (top 48)) f cdv A outer s H E) rfl
    have nd := sc__law_both.nd
    have z : ∃ t, DSs (CXo P w K mg base ["near", "far"] "_law_both" (defScope (top 48)) f cdv A outer s H E) (WEE E) (defBody (top 48)) t  D__law_both := ⟨_, (z_one (k_ret (e_mul (e_fdiv (e_var 0) (e_call h__law_common_b hr tk (a_cons (e_var 0) (a_cons (e_var 1) a_nil)))) (e_var 1))))⟩
    obtain ⟨t, z⟩ := z
    exact ⟨t, z.p, z.w⟩)⟩

theorem sc_sure_within : FnScope (["thing", "least", "most"] : List PySem.Str) ["thing", "least", "most"] (defScope (top 7)) := ⟨rfl, rfl, rfl, by decide +kernel, rfl, by decide +kernel, by decide +kernel⟩
theorem h_sure_within {K : PySem.W.Frag} {mg : Str → Option Value} {P : Program} {w : World} {base : Heap} (G : Gf K mg) {f : Addr} {fd : FuncData} (F : FunD K "sure_within" "sure_within" (defArgs (top 7)) (defBody (top 7)) (defScope (top 7)) [] [] f fd) (gf : mg "sure_within" = some (.ref f)) (h_is_within : Has P w K mg base "is_within" 2 F_is_within) : Has P w K mg base "sure_within" 3 F_sure_within :=
  ⟨f, fd, ["thing", "least", "most"], gf, F.kp, F.bindsN fun _ _ _ _ _ _ us hl => match us, hl with | [_, _, _], _ => rfl, fn_pure F sc_sure_within D_sure_within (fun cdv A outer s H E hr => by
    have tk := takes_of (X := CXo P w K mg base ["thing", "least", "most"] "sure_within" (defScope (top 7)) f cdv A outer s H E) rfl rfl rfl rfl
    have po := passes_of (X := CXo P w K mg base ["thing", "least", "most"] "sure_within" (defScope (top 7)) f cdv A outer s H E) rfl
    have nd := sc_sure_within.nd
    have z : ∃ t, DSs (CXo P w K mg base ["thing", "least", "most"] "sure_within" (defScope (top 7)) f cdv A outer s H E) (WEE E) (defBody (top 7)) t  D_sure_within := ⟨_, (z_cons (k_if (t_not (t_val (e_call h_is_within hr tk (a_cons (e_var 0) (a_cons (e_var 1) (a_cons (e_var 2) a_nil)))))) (z_one (k_raise tk G.r_Unfit)) z_nil)
    (z_one (k_ret (e_var 0))))⟩
    obtain ⟨t, z⟩ := z
    exact ⟨t, z.p, z.w⟩)⟩

theorem sc_is_row_in : FnScope (["thing", "own"] : List PySem.Str) ["thing"] (defScope (top 14)) := ⟨rfl, rfl, rfl, by decide +kernel, rfl, by decide +kernel, by decide +kernel⟩
theorem h_is_row_in {K : PySem.W.Frag} {mg : Str → Option Value} {P : Program} {w : World} {base : Heap} (G : Gf K mg) {f : Addr} {fd : FuncData} (F : FunD K "is_row_in" "is_row_in" (defArgs (top 14)) (defBody (top 14)) (defScope (top 14)) [] [] f fd) (gf : mg "is_row_in" = some (.ref f)) (h_is_within : Has P w K mg base "is_within" 2 F_is_within) : Has P w K mg base "is_row_in" 3 F_is_row_in :=
  ⟨f, fd, ["thing"], gf, F.kp, F.bindsN fun _ _ _ _ _ _ us hl => match us, hl with | [_], _ => rfl, fn_pure F sc_is_row_in D_is_row_in (fun cdv A outer s H E hr => by
    have tk := takes_of (X := CXo P w K mg base ["thing", "own"] "is_row_in" (defScope (top 14)) f cdv A outer s H E) rfl rfl rfl rfl
    have po := passes_of (X := CXo P w K mg base ["thing", "own"] "is_row_in" (defScope (top 14)) f cdv A outer s H E) rfl
    have nd := sc_is_row_in.nd
    have z : ∃ t, DSs (CXo P w K mg base ["thing", "own"] "is_row_in" (defScope (top 14)) f cdv A outer s H E) (WEE E) (defBody (top 14)) t  D_is_row_in := ⟨_, (z_one (k_ret (e_and (e_isi1 G.B .tuple (e_var 0) bb_tuple G.B.tuple) (e_and (e_ne hr (e_var 0) (e_tup a_nil)) (e_one (e_all G.B (by rfl) (a_cons (e_fz (x_lc [("own", 1)] (g := (gName 1)) (tt := tYes) (te := (tCallS (spP K mg F_is_within) (L2.WE W0) (tCons (tVar 1) (tCons (tC (.int 0)) (tCons (tC (.int 30)) tNil))))) nd (j_seq (e_var 0)) (fun _ _ _ _ _ => by exact (v_nm 1 nd)) (fun _ _ _ _ _ => by exact y_nil) (fun _ _ _ _ _ => by exact (e_call h_is_within hr takes0 (a_cons (e_var 1) (a_cons e_int (a_cons (e_gint G.c_MOST_CHANNEL) a_nil))))) (blkOk_by (by rfl)))) a_nil)))))))⟩
    obtain ⟨t, z⟩ := z
    exact ⟨t, z.p, z.w⟩)⟩

theorem sc_time_in : FnScope (["one", "other", "phases", "channel", "slot", "own"] : List PySem.Str) ["one", "other", "phases", "channel"] (defScope (top 20)) := ⟨rfl, rfl, rfl, by decide +kernel, rfl, by decide +kernel, by decide +kernel⟩
theorem h_time_in {K : PySem.W.Frag} {mg : Str → Option Value} {P : Program} {w : World} {base : Heap} (G : Gf K mg) {f : Addr} {fd : FuncData} (F : FunD K "time_in" "time_in" (defArgs (top 20)) (defBody (top 20)) (defScope (top 20)) [] [] f fd) (gf : mg "time_in" = some (.ref f)) (h_together_in : Has P w K mg base "together_in" 2 F_together_in) : Has P w K mg base "time_in" 3 F_time_in :=
  ⟨f, fd, ["one", "other", "phases", "channel"], gf, F.kp, F.bindsN fun _ _ _ _ _ _ us hl => match us, hl with | [_, _, _, _], _ => rfl, fn_pure F sc_time_in D_time_in (fun cdv A outer s H E hr => by
    have tk := takes_of (X := CXo P w K mg base ["one", "other", "phases", "channel", "slot", "own"] "time_in" (defScope (top 20)) f cdv A outer s H E) rfl rfl rfl rfl
    have po := passes_of (X := CXo P w K mg base ["one", "other", "phases", "channel", "slot", "own"] "time_in" (defScope (top 20)) f cdv A outer s H E) rfl
    have nd := sc_time_in.nd
    have z : ∃ t, DSs (CXo P w K mg base ["one", "other", "phases", "channel", "slot", "own"] "time_in" (defScope (top 20)) f cdv A outer s H E) (WEE E) (defBody (top 20)) t  D_time_in := ⟨_, (z_cons (k_for po (j_r1 G.B (a_cons (e_call h_together_in hr tk (a_cons (e_var 0) (a_cons (e_var 1) a_nil))) a_nil)) (n_name 4 nd) (z_cons (k_set 5 nd (e_ix (e_var 0) (e_mod (e_add (e_ix (e_var 2) e_int) (e_var 4)) (e_len G.B (a_cons (e_var 0) a_nil)))))
    (z_one (k_if (t_q (q_and (t_eq hr (e_var 5) (e_ix (e_var 1) (e_mod (e_add (e_ix (e_var 2) e_int) (e_var 4)) (e_len G.B (a_cons (e_var 1) a_nil))))) (q_and1 (t_in (e_var 3) (e_tup (a_cons e_non (a_cons (e_var 5) a_nil))))))) (z_one (k_ret (e_add (e_var 4) e_int))) z_nil))))
    (z_one (k_ret e_non)))⟩
    obtain ⟨t, z⟩ := z
    exact ⟨t, z.p, z.w⟩)⟩

theorem sc_sure_round : FnScope (["value"] : List PySem.Str) ["value"] (defScope (top 34)) := ⟨rfl, rfl, rfl, by decide +kernel, rfl, by decide +kernel, by decide +kernel⟩
theorem h_sure_round {K : PySem.W.Frag} {mg : Str → Option Value} {P : Program} {w : World} {base : Heap} (G : Gf K mg) {f : Addr} {fd : FuncData} (F : FunD K "sure_round" "sure_round" (defArgs (top 34)) (defBody (top 34)) (defScope (top 34)) [] [] f fd) (gf : mg "sure_round" = some (.ref f)) (h_sure_within : Has P w K mg base "sure_within" 3 F_sure_within) : Has P w K mg base "sure_round" 4 F_sure_round :=
  ⟨f, fd, ["value"], gf, F.kp, F.bindsN fun _ _ _ _ _ _ us hl => match us, hl with | [_], _ => rfl, fn_pure F sc_sure_round D_sure_round (fun cdv A outer s H E hr => by
    have tk := takes_of (X := CXo P w K mg base ["value"] "sure_round" (defScope (top 34)) f cdv A outer s H E) rfl rfl rfl rfl
    have po := passes_of (X := CXo P w K mg base ["value"] "sure_round" (defScope (top 34)) f cdv A outer s H E) rfl
    have nd := sc_sure_round.nd
    have z : ∃ t, DSs (CXo P w K mg base ["value"] "sure_round" (defScope (top 34)) f cdv A outer s H E) (WEE E) (defBody (top 34)) t  D_sure_round := ⟨_, (z_one (k_ret (e_call h_sure_within hr tk (a_cons (e_var 0) (a_cons e_int (a_cons (e_gint G.c_MOST_ROW) a_nil))))))⟩
    obtain ⟨t, z⟩ := z
    exact ⟨t, z.p, z.w⟩)⟩

theorem sc_tupled : FnScope (["value", "own"] : List PySem.Str) ["value"] (defScope (top 9)) := ⟨rfl, rfl, rfl, by decide +kernel, rfl, by decide +kernel, by decide +kernel⟩
theorem h_tupled {K : PySem.W.Frag} {mg : Str → Option Value} {P : Program} {w : World} {base : Heap} (G : Gf K mg) {f : Addr} {fd : FuncData} (F : FunD K "tupled" "tupled" (defArgs (top 9)) (defBody (top 9)) (defScope (top 9)) [] [] f fd) (gf : mg "tupled" = some (.ref f))  : Has P w K mg base "tupled" 10 F_tupled := by
  have all : ∀ n : Nat, Has P w K mg base "tupled" (0 + n) (R_tupled n) := fun n => by
    induction n with
    | zero => exact ⟨f, fd, ["value"], gf, F.kp, F.bindsN fun _ _ _ _ _ _ us hl => match us, hl with | [_], _ => rfl, fn_bad⟩
    | succ n ih => exact ⟨f, fd, ["value"], gf, F.kp, F.bindsN fun _ _ _ _ _ _ us hl => match us, hl with | [_], _ => rfl, fn_pure F sc_tupled (D_tupled (R_tupled n)) (fun cdv A outer s H E hr => by
        have tk := takes_of (X := CXo P w K mg base ["value", "own"] "tupled" (defScope (top 9)) f cdv A outer s H E) rfl rfl rfl rfl
        have po := passes_of (X := CXo P w K mg base ["value", "own"] "tupled" (defScope (top 9)) f cdv A outer s H E) rfl
        have nd := sc_tupled.nd
        have z : ∃ t, DSs (CXo P w K mg base ["value", "own"] "tupled" (defScope (top 9)) f cdv A outer s H E) (WEE E) (defBody (top 9)) t  (D_tupled (R_tupled n)) := by
          have h_tupled := ih
          exact ⟨_, (z_one (k_ret (e_if (t_val (e_isi2 G.B .list .tuple (e_var 0) bb_list G.B.list bb_tuple G.B.tuple)) (e_tuple G.B (a_cons (e_fz (x_lc [("own", 1)] (g := (gName 1)) (tt := tYes) (te := (tCallS (spP K mg (R_tupled n)) (L2.WE W0) (tCons (tVar 1) tNil))) nd (j_seq (e_var 0)) (fun _ _ _ _ _ => by exact (v_nm 1 nd)) (fun _ _ _ _ _ => by exact y_nil) (fun _ _ _ _ _ => by exact (e_call h_tupled hr takes0 (a_cons (e_var 1) a_nil) (hk := Nat.le_refl _))) (blkOk_by (by rfl)))) a_nil)) (e_var 0))))⟩
        obtain ⟨t, z⟩ := z
        exact ⟨t, z.p, z.w⟩)⟩
  exact all 10

theorem sc__law_same : FnScope (["got", "due", "mine", "its"] : List PySem.Str) ["got", "due"] (defScope (top 44)) := ⟨rfl, rfl, rfl, by decide +kernel, rfl, by decide +kernel, by decide +kernel⟩
theorem h__law_same {K : PySem.W.Frag} {mg : Str → Option Value} {P : Program} {w : World} {base : Heap} (G : Gf K mg) {f : Addr} {fd : FuncData} (F : FunD K "_law_same" "_law_same" (defArgs (top 44)) (defBody (top 44)) (defScope (top 44)) [] [] f fd) (gf : mg "_law_same" = some (.ref f))  : Has P w K mg base "_law_same" 10 F__law_same := by
  have all : ∀ n : Nat, Has P w K mg base "_law_same" (0 + n) (R__law_same n) := fun n => by
    induction n with
    | zero => exact ⟨f, fd, ["got", "due"], gf, F.kp, F.bindsN fun _ _ _ _ _ _ us hl => match us, hl with | [_, _], _ => rfl, fn_bad⟩
    | succ n ih => exact ⟨f, fd, ["got", "due"], gf, F.kp, F.bindsN fun _ _ _ _ _ _ us hl => match us, hl with | [_, _], _ => rfl, fn_pure F sc__law_same (D__law_same (R__law_same n)) (fun cdv A outer s H E hr => by
        have tk := takes_of (X := CXo P w K mg base ["got", "due", "mine", "its"] "_law_same" (defScope (top 44)) f cdv A outer s H E) rfl rfl rfl rfl
        have po := passes_of (X := CXo P w K mg base ["got", "due", "mine", "its"] "_law_same" (defScope (top 44)) f cdv A outer s H E) rfl
        have nd := sc__law_same.nd
        have z : ∃ t, DSs (CXo P w K mg base ["got", "due", "mine", "its"] "_law_same" (defScope (top 44)) f cdv A outer s H E) (WEE E) (defBody (top 44)) t  (D__law_same (R__law_same n)) := by
          have h__law_same := ih
          exact ⟨_, (z_cons (k_if (t_val (e_isi2 G.B .list .tuple (e_var 1) bb_list G.B.list bb_tuple G.B.tuple)) (z_cons (k_if (t_q (q_or (t_ne hr (e_isi1 G.B .list (e_var 0) bb_list G.B.list) (e_isi1 G.B .list (e_var 1) bb_list G.B.list)) (q_or1 (t_ne hr (e_isi1 G.B .tuple (e_var 0) bb_tuple G.B.tuple) (e_isi1 G.B .tuple (e_var 1) bb_tuple G.B.tuple))))) (z_one (k_ret e_bl)) z_nil)
    (z_one (k_ret (e_and (e_eq hr (e_len G.B (a_cons (e_var 0) a_nil)) (e_len G.B (a_cons (e_var 1) a_nil))) (e_one (e_all G.B (by rfl) (a_cons (e_fz (x_lc [("mine", 2), ("its", 3)] (g := (gTup K 2 (gCons (gName 2) (gCons (gName 3) gNil)))) (tt := tYes) (te := (tCallS (spP K mg (R__law_same n)) (L2.WE W0) (tCons (tVar 2) (tCons (tVar 3) tNil)))) nd (j_zp G.B (a_cons (e_var 0) (a_cons (e_var 1) a_nil))) (fun _ _ _ _ _ => by exact (v_tp (by rfl) (v_cn (v_nm 2 nd) (v_cn (v_nm 3 nd) v_nl)))) (fun _ _ _ _ _ => by exact y_nil) (fun _ _ _ _ _ => by exact (e_call h__law_same hr takes0 (a_cons (e_var 2) (a_cons (e_var 3) a_nil)) (hk := Nat.le_refl _))) (blkOk_by (by rfl)))) a_nil))))))) z_nil)
    (z_cons (k_if (t_is (e_var 1) e_non) (z_one (k_ret (e_is (e_var 0) e_non))) z_nil)
    (z_cons (k_if (t_val (e_isi2 G.B .bool .str (e_var 1) bb_bool G.B.bool bb_str G.B.str)) (z_one (k_ret (e_and (e_eq hr (e_isi1 G.B .bool (e_var 0) bb_bool G.B.bool) (e_isi1 G.B .bool (e_var 1) bb_bool G.B.bool)) (e_and (e_eq hr (e_isi1 G.B .str (e_var 0) bb_str G.B.str) (e_isi1 G.B .str (e_var 1) bb_str G.B.str)) (e_one (e_eq hr (e_var 0) (e_var 1))))))) z_nil)
    (z_one (k_ret (e_and (e_isi1 G.B .int (e_var 0) bb_int G.B.int) (e_and (e_not (e_isi1 G.B .bool (e_var 0) bb_bool G.B.bool)) (e_one (e_eq hr (e_var 0) (e_var 1))))))))))⟩
        obtain ⟨t, z⟩ := z
        exact ⟨t, z.p, z.w⟩)⟩
  exact all 10

theorem sc_sure_hops : FnScope (["value", "own"] : List PySem.Str) ["value"] (defScope (top 15)) := ⟨rfl, rfl, rfl, by decide +kernel, rfl, by decide +kernel, by decide +kernel⟩
theorem h_sure_hops {K : PySem.W.Frag} {mg : Str → Option Value} {P : Program} {w : World} {base : Heap} (G : Gf K mg) {f : Addr} {fd : FuncData} (F : FunD K "sure_hops" "sure_hops" (defArgs (top 15)) (defBody (top 15)) (defScope (top 15)) [] [] f fd) (gf : mg "sure_hops" = some (.ref f)) (h_is_row_in : Has P w K mg base "is_row_in" 3 F_is_row_in) (h_tupled : Has P w K mg base "tupled" 10 F_tupled) : Has P w K mg base "sure_hops" 11 F_sure_hops :=
  ⟨f, fd, ["value"], gf, F.kp, F.bindsN fun _ _ _ _ _ _ us hl => match us, hl with | [_], _ => rfl, fn_pure F sc_sure_hops D_sure_hops (fun cdv A outer s H E hr => by
    have tk := takes_of (X := CXo P w K mg base ["value", "own"] "sure_hops" (defScope (top 15)) f cdv A outer s H E) rfl rfl rfl rfl
    have po := passes_of (X := CXo P w K mg base ["value", "own"] "sure_hops" (defScope (top 15)) f cdv A outer s H E) rfl
    have nd := sc_sure_hops.nd
    have z : ∃ t, DSs (CXo P w K mg base ["value", "own"] "sure_hops" (defScope (top 15)) f cdv A outer s H E) (WEE E) (defBody (top 15)) t  D_sure_hops := ⟨_, (z_cons (k_set 1 nd (e_call h_tupled hr tk (a_cons (e_var 0) a_nil)))
    (z_cons (k_if (t_q (q_or (t_not (t_val (e_call h_is_row_in hr tk (a_cons (e_var 1) a_nil)))) (q_or1 (t_gt (e_len G.B (a_cons (e_var 1) a_nil)) (e_gint G.c_MOST_ROW))))) (z_one (k_raise tk G.r_Unfit)) z_nil)
    (z_one (k_ret (e_var 1)))))⟩
    obtain ⟨t, z⟩ := z
    exact ⟨t, z.p, z.w⟩)⟩

theorem sc_sure_phases : FnScope (["one", "other", "value", "own"] : List PySem.Str) ["one", "other", "value"] (defScope (top 19)) := ⟨rfl, rfl, rfl, by decide +kernel, rfl, by decide +kernel, by decide +kernel⟩
theorem h_sure_phases {K : PySem.W.Frag} {mg : Str → Option Value} {P : Program} {w : World} {base : Heap} (G : Gf K mg) {f : Addr} {fd : FuncData} (F : FunD K "sure_phases" "sure_phases" (defArgs (top 19)) (defBody (top 19)) (defScope (top 19)) [] [] f fd) (gf : mg "sure_phases" = some (.ref f)) (h_is_long : Has P w K mg base "is_long" 1 F_is_long) (h_is_within : Has P w K mg base "is_within" 2 F_is_within) (h_tupled : Has P w K mg base "tupled" 10 F_tupled) : Has P w K mg base "sure_phases" 11 F_sure_phases :=
  ⟨f, fd, ["one", "other", "value"], gf, F.kp, F.bindsN fun _ _ _ _ _ _ us hl => match us, hl with | [_, _, _], _ => rfl, fn_pure F sc_sure_phases D_sure_phases (fun cdv A outer s H E hr => by
    have tk := takes_of (X := CXo P w K mg base ["one", "other", "value", "own"] "sure_phases" (defScope (top 19)) f cdv A outer s H E) rfl rfl rfl rfl
    have po := passes_of (X := CXo P w K mg base ["one", "other", "value", "own"] "sure_phases" (defScope (top 19)) f cdv A outer s H E) rfl
    have nd := sc_sure_phases.nd
    have z : ∃ t, DSs (CXo P w K mg base ["one", "other", "value", "own"] "sure_phases" (defScope (top 19)) f cdv A outer s H E) (WEE E) (defBody (top 19)) t  D_sure_phases := ⟨_, (z_cons (k_set 3 nd (e_call h_tupled hr tk (a_cons (e_var 2) a_nil)))
    (z_cons (k_if (t_q (q_or (t_not (t_val (e_call h_is_long hr tk (a_cons (e_var 3) (a_cons e_int a_nil))))) (q_or (t_not (t_val (e_call h_is_within hr tk (a_cons (e_ix (e_var 3) e_int) (a_cons e_int (a_cons (e_sub (e_len G.B (a_cons (e_var 0) a_nil)) e_int) a_nil)))))) (q_or1 (t_not (t_val (e_call h_is_within hr tk (a_cons (e_ix (e_var 3) e_int) (a_cons e_int (a_cons (e_sub (e_len G.B (a_cons (e_var 1) a_nil)) e_int) a_nil)))))))))) (z_one (k_raise tk G.r_Unfit)) z_nil)
    (z_one (k_ret (e_var 3)))))⟩
    obtain ⟨t, z⟩ := z
    exact ⟨t, z.p, z.w⟩)⟩

theorem sc_sure_lot_of_rows : FnScope (["value", "own", "row"] : List PySem.Str) ["value"] (defScope (top 27)) := ⟨rfl, rfl, rfl, by decide +kernel, rfl, by decide +kernel, by decide +kernel⟩
theorem h_sure_lot_of_rows {K : PySem.W.Frag} {mg : Str → Option Value} {P : Program} {w : World} {base : Heap} (G : Gf K mg) {f : Addr} {fd : FuncData} (F : FunD K "sure_lot_of_rows" "sure_lot_of_rows" (defArgs (top 27)) (defBody (top 27)) (defScope (top 27)) [] [] f fd) (gf : mg "sure_lot_of_rows" = some (.ref f)) (h_is_row_in : Has P w K mg base "is_row_in" 3 F_is_row_in) (h_tupled : Has P w K mg base "tupled" 10 F_tupled) : Has P w K mg base "sure_lot_of_rows" 11 F_sure_lot_of_rows :=
  ⟨f, fd, ["value"], gf, F.kp, F.bindsN fun _ _ _ _ _ _ us hl => match us, hl with | [_], _ => rfl, fn_pure F sc_sure_lot_of_rows D_sure_lot_of_rows (fun cdv A outer s H E hr => by
    have tk := takes_of (X := CXo P w K mg base ["value", "own", "row"] "sure_lot_of_rows" (defScope (top 27)) f cdv A outer s H E) rfl rfl rfl rfl
    have po := passes_of (X := CXo P w K mg base ["value", "own", "row"] "sure_lot_of_rows" (defScope (top 27)) f cdv A outer s H E) rfl
    have nd := sc_sure_lot_of_rows.nd
    have z : ∃ t, DSs (CXo P w K mg base ["value", "own", "row"] "sure_lot_of_rows" (defScope (top 27)) f cdv A outer s H E) (WEE E) (defBody (top 27)) t  D_sure_lot_of_rows := ⟨_, (z_cons (k_set 1 nd (e_call h_tupled hr tk (a_cons (e_var 0) a_nil)))
    (z_cons (k_if (t_q (q_or (t_not (t_val (e_isi1 G.B .tuple (e_var 1) bb_tuple G.B.tuple))) (q_or1 (t_not (t_lele e_int (e_len G.B (a_cons (e_var 1) a_nil)) (e_gint G.c_MOST_WHO)))))) (z_one (k_raise tk G.r_Unfit)) z_nil)
    (z_cons (k_if (t_not (t_val (e_all G.B (by rfl) (a_cons (e_fz (x_lc [("row", 2)] (g := (gName 2)) (tt := tYes) (te := (tAndV (tCallS (spP K mg F_is_row_in) (L2.WE W0) (tCons (tVar 2) tNil)) (tOp (rI0 fun i j => .bl (decide (i ≤ j))) (tCB (rLn K) (tCons (tVar 2) tNil)) (tC (.int 400))))) nd (j_seq (e_var 1)) (fun _ _ _ _ _ => by exact (v_nm 2 nd)) (fun _ _ _ _ _ => by exact y_nil) (fun _ _ _ _ _ => by exact (e_and (e_call h_is_row_in hr takes0 (a_cons (e_var 2) a_nil)) (e_one (e_le (e_len G.B (a_cons (e_var 2) a_nil)) (e_gint G.c_MOST_ROW))))) (blkOk_by (by rfl)))) a_nil)))) (z_one (k_raise tk G.r_Unfit)) z_nil)
    (z_one (k_ret (e_var 1))))))⟩
    obtain ⟨t, z⟩ := z
    exact ⟨t, z.p, z.w⟩)⟩

theorem sc_sure_places : FnScope (["rows", "value", "own", "place", "row"] : List PySem.Str) ["rows", "value"] (defScope (top 29)) := ⟨rfl, rfl, rfl, by decide +kernel, rfl, by decide +kernel, by decide +kernel⟩
theorem h_sure_places {K : PySem.W.Frag} {mg : Str → Option Value} {P : Program} {w : World} {base : Heap} (G : Gf K mg) {f : Addr} {fd : FuncData} (F : FunD K "sure_places" "sure_places" (defArgs (top 29)) (defBody (top 29)) (defScope (top 29)) [] [] f fd) (gf : mg "sure_places" = some (.ref f)) (h_is_within : Has P w K mg base "is_within" 2 F_is_within) (h_tupled : Has P w K mg base "tupled" 10 F_tupled) : Has P w K mg base "sure_places" 11 F_sure_places :=
  ⟨f, fd, ["rows", "value"], gf, F.kp, F.bindsN fun _ _ _ _ _ _ us hl => match us, hl with | [_, _], _ => rfl, fn_pure F sc_sure_places D_sure_places (fun cdv A outer s H E hr => by
    have tk := takes_of (X := CXo P w K mg base ["rows", "value", "own", "place", "row"] "sure_places" (defScope (top 29)) f cdv A outer s H E) rfl rfl rfl rfl
    have po := passes_of (X := CXo P w K mg base ["rows", "value", "own", "place", "row"] "sure_places" (defScope (top 29)) f cdv A outer s H E) rfl
    have nd := sc_sure_places.nd
    have z : ∃ t, DSs (CXo P w K mg base ["rows", "value", "own", "place", "row"] "sure_places" (defScope (top 29)) f cdv A outer s H E) (WEE E) (defBody (top 29)) t  D_sure_places := ⟨_, (z_cons (k_set 2 nd (e_call h_tupled hr tk (a_cons (e_var 1) a_nil)))
    (z_cons (k_if (t_q (q_or (t_not (t_val (e_isi1 G.B .tuple (e_var 2) bb_tuple G.B.tuple))) (q_or1 (t_ne hr (e_len G.B (a_cons (e_var 2) a_nil)) (e_len G.B (a_cons (e_var 0) a_nil)))))) (z_one (k_raise tk G.r_Unfit)) z_nil)
    (z_cons (k_if (t_not (t_val (e_all G.B (by rfl) (a_cons (e_fz (x_lc [("place", 3), ("row", 4)] (g := (gTup K 2 (gCons (gName 3) (gCons (gName 4) gNil)))) (tt := tYes) (te := (tCallS (spP K mg F_is_within) (L2.WE W0) (tCons (tVar 3) (tCons (tC (.int 0)) (tCons (tOp (rI0 fun i j => .int (i - j)) (tCB (rLn K) (tCons (tVar 4) tNil)) (tC (.int 1))) tNil))))) nd (j_zp G.B (a_cons (e_var 2) (a_cons (e_var 0) a_nil))) (fun _ _ _ _ _ => by exact (v_tp (by rfl) (v_cn (v_nm 3 nd) (v_cn (v_nm 4 nd) v_nl)))) (fun _ _ _ _ _ => by exact y_nil) (fun _ _ _ _ _ => by exact (e_call h_is_within hr takes0 (a_cons (e_var 3) (a_cons e_int (a_cons (e_sub (e_len G.B (a_cons (e_var 4) a_nil)) e_int) a_nil))))) (blkOk_by (by rfl)))) a_nil)))) (z_one (k_raise tk G.r_Unfit)) z_nil)
    (z_one (k_ret (e_var 2))))))⟩
    obtain ⟨t, z⟩ := z
    exact ⟨t, z.p, z.w⟩)⟩

theorem sc_rest_slot : FnScope (["one", "other", "gaps", "near", "far", "own", "share", "many", "steps"] : List PySem.Str) ["one", "other", "gaps"] (defScope (top 37)) := ⟨rfl, rfl, rfl, by decide +kernel, rfl, by decide +kernel, by decide +kernel⟩
theorem h_rest_slot {K : PySem.W.Frag} {mg : Str → Option Value} {P : Program} {w : World} {base : Heap} (G : Gf K mg) {f : Addr} {fd : FuncData} (F : FunD K "rest_slot" "rest_slot" (defArgs (top 37)) (defBody (top 37)) (defScope (top 37)) [] [] f fd) (gf : mg "rest_slot" = some (.ref f)) (h_common : Has P w K mg base "common" 1 F_common) (h_contrary_by : Has P w K mg base "contrary_by" 1 F_contrary_by) (h_is_long : Has P w K mg base "is_long" 1 F_is_long) (h_is_within : Has P w K mg base "is_within" 2 F_is_within) (h_sure_round : Has P w K mg base "sure_round" 4 F_sure_round) (h_tupled : Has P w K mg base "tupled" 10 F_tupled) : Has P w K mg base "rest_slot" 11 F_rest_slot :=
  ⟨f, fd, ["one", "other", "gaps"], gf, F.kp, F.bindsN fun _ _ _ _ _ _ us hl => match us, hl with | [_, _, _], _ => rfl, fn_pure F sc_rest_slot D_rest_slot (fun cdv A outer s H E hr => by
    have tk := takes_of (X := CXo P w K mg base ["one", "other", "gaps", "near", "far", "own", "share", "many", "steps"] "rest_slot" (defScope (top 37)) f cdv A outer s H E) rfl rfl rfl rfl
    have po := passes_of (X := CXo P w K mg base ["one", "other", "gaps", "near", "far", "own", "share", "many", "steps"] "rest_slot" (defScope (top 37)) f cdv A outer s H E) rfl
    have nd := sc_rest_slot.nd
    have z : ∃ t, DSs (CXo P w K mg base ["one", "other", "gaps", "near", "far", "own", "share", "many", "steps"] "rest_slot" (defScope (top 37)) f cdv A outer s H E) (WEE E) (defBody (top 37)) t  D_rest_slot := ⟨_, (z_cons (k_set 3 nd (e_call h_sure_round hr tk (a_cons (e_var 0) a_nil)))
    (z_cons (k_set 4 nd (e_call h_sure_round hr tk (a_cons (e_var 1) a_nil)))
    (z_cons (k_set 5 nd (e_call h_tupled hr tk (a_cons (e_var 2) a_nil)))
    (z_cons (k_if (t_q (q_or (t_not (t_val (e_call h_is_long hr tk (a_cons (e_var 5) (a_cons e_int a_nil))))) (q_or (t_not (t_val (e_call h_is_within hr tk (a_cons (e_ix (e_var 5) e_int) (a_cons e_int (a_cons (e_sub (e_var 3) e_int) a_nil)))))) (q_or1 (t_not (t_val (e_call h_is_within hr tk (a_cons (e_ix (e_var 5) e_int) (a_cons e_int (a_cons (e_sub (e_var 4) e_int) a_nil)))))))))) (z_one (k_raise tk G.r_Unfit)) z_nil)
    (z_cons (k_set 6 nd (e_call h_common hr tk (a_cons (e_var 3) (a_cons (e_var 4) a_nil))))
    (z_cons (k_if (t_ne hr (e_mod (e_sub (e_ix (e_var 5) e_int) (e_ix (e_var 5) e_int)) (e_var 6)) e_int) (z_one (k_raise tk G.r_CanNot)) z_nil)
    (z_cons (k_set 7 nd (e_fdiv (e_var 4) (e_var 6)))
    (z_cons (k_set 8 nd (e_mod (e_mul (e_fdiv (e_sub (e_ix (e_var 5) e_int) (e_ix (e_var 5) e_int)) (e_var 6)) (e_call h_contrary_by hr tk (a_cons (e_fdiv (e_var 3) (e_var 6)) (a_cons (e_var 7) a_nil)))) (e_var 7)))
    (z_one (k_ret (e_add (e_ix (e_var 5) e_int) (e_mul (e_var 3) (e_var 8)))))))))))))⟩
    obtain ⟨t, z⟩ := z
    exact ⟨t, z.p, z.w⟩)⟩

theorem sc_sure_two : FnScope (["one", "other", "near"] : List PySem.Str) ["one", "other"] (defScope (top 21)) := ⟨rfl, rfl, rfl, by decide +kernel, rfl, by decide +kernel, by decide +kernel⟩
theorem h_sure_two {K : PySem.W.Frag} {mg : Str → Option Value} {P : Program} {w : World} {base : Heap} (G : Gf K mg) {f : Addr} {fd : FuncData} (F : FunD K "sure_two" "sure_two" (defArgs (top 21)) (defBody (top 21)) (defScope (top 21)) [] [] f fd) (gf : mg "sure_two" = some (.ref f)) (h_sure_hops : Has P w K mg base "sure_hops" 11 F_sure_hops) : Has P w K mg base "sure_two" 12 F_sure_two :=
  ⟨f, fd, ["one", "other"], gf, F.kp, F.bindsN fun _ _ _ _ _ _ us hl => match us, hl with | [_, _], _ => rfl, fn_pure F sc_sure_two D_sure_two (fun cdv A outer s H E hr => by
    have tk := takes_of (X := CXo P w K mg base ["one", "other", "near"] "sure_two" (defScope (top 21)) f cdv A outer s H E) rfl rfl rfl rfl
    have po := passes_of (X := CXo P w K mg base ["one", "other", "near"] "sure_two" (defScope (top 21)) f cdv A outer s H E) rfl
    have nd := sc_sure_two.nd
    have z : ∃ t, DSs (CXo P w K mg base ["one", "other", "near"] "sure_two" (defScope (top 21)) f cdv A outer s H E) (WEE E) (defBody (top 21)) t  D_sure_two := ⟨_, (z_cons (k_set 2 nd (e_call h_sure_hops hr tk (a_cons (e_var 0) a_nil)))
    (z_one (k_ret (e_tup (a_cons (e_var 2) (a_cons (e_call h_sure_hops hr tk (a_cons (e_var 1) a_nil)) a_nil))))))⟩
    obtain ⟨t, z⟩ := z
    exact ⟨t, z.p, z.w⟩)⟩

theorem sc_all_first : FnScope (["rows", "phases", "own", "places"] : List PySem.Str) ["rows", "phases"] (defScope (top 31)) := ⟨rfl, rfl, rfl, by decide +kernel, rfl, by decide +kernel, by decide +kernel⟩
theorem h_all_first {K : PySem.W.Frag} {mg : Str → Option Value} {P : Program} {w : World} {base : Heap} (G : Gf K mg) {f : Addr} {fd : FuncData} (F : FunD K "all_first" "all_first" (defArgs (top 31)) (defBody (top 31)) (defScope (top 31)) [] [] f fd) (gf : mg "all_first" = some (.ref f)) (h_all_time_in : Has P w K mg base "all_time_in" 1 F_all_time_in) (h_round_of : Has P w K mg base "round_of" 2 F_round_of) (h_sure_lot_of_rows : Has P w K mg base "sure_lot_of_rows" 11 F_sure_lot_of_rows) (h_sure_places : Has P w K mg base "sure_places" 11 F_sure_places) : Has P w K mg base "all_first" 12 F_all_first :=
  ⟨f, fd, ["rows", "phases"], gf, F.kp, F.bindsN fun _ _ _ _ _ _ us hl => match us, hl with | [_, _], _ => rfl, fn_pure F sc_all_first D_all_first (fun cdv A outer s H E hr => by
    have tk := takes_of (X := CXo P w K mg base ["rows", "phases", "own", "places"] "all_first" (defScope (top 31)) f cdv A outer s H E) rfl rfl rfl rfl
    have po := passes_of (X := CXo P w K mg base ["rows", "phases", "own", "places"] "all_first" (defScope (top 31)) f cdv A outer s H E) rfl
    have nd := sc_all_first.nd
    have z : ∃ t, DSs (CXo P w K mg base ["rows", "phases", "own", "places"] "all_first" (defScope (top 31)) f cdv A outer s H E) (WEE E) (defBody (top 31)) t  D_all_first := ⟨_, (z_cons (k_set 2 nd (e_call h_sure_lot_of_rows hr tk (a_cons (e_var 0) a_nil)))
    (z_cons (k_set 3 nd (e_call h_sure_places hr tk (a_cons (e_var 2) (a_cons (e_var 1) a_nil))))
    (z_one (k_ret (e_call h_all_time_in hr tk (a_cons (e_var 2) (a_cons (e_var 3) (a_cons (e_call h_round_of hr tk (a_cons (e_var 2) a_nil)) a_nil))))))))⟩
    obtain ⟨t, z⟩ := z
    exact ⟨t, z.p, z.w⟩)⟩

theorem sc_all_channels : FnScope (["rows", "own", "channel", "row"] : List PySem.Str) ["rows"] (defScope (top 32)) := ⟨rfl, rfl, rfl, by decide +kernel, rfl, by decide +kernel, by decide +kernel⟩
theorem h_all_channels {K : PySem.W.Frag} {mg : Str → Option Value} {P : Program} {w : World} {base : Heap} (G : Gf K mg) {f : Addr} {fd : FuncData} (F : FunD K "all_channels" "all_channels" (defArgs (top 32)) (defBody (top 32)) (defScope (top 32)) [] [] f fd) (gf : mg "all_channels" = some (.ref f)) (h_channels_in : Has P w K mg base "channels_in" 1 F_channels_in) (h_sure_lot_of_rows : Has P w K mg base "sure_lot_of_rows" 11 F_sure_lot_of_rows) : Has P w K mg base "all_channels" 12 F_all_channels :=
  ⟨f, fd, ["rows"], gf, F.kp, F.bindsN fun _ _ _ _ _ _ us hl => match us, hl with | [_], _ => rfl, fn_pure F sc_all_channels D_all_channels (fun cdv A outer s H E hr => by
    have tk := takes_of (X := CXo P w K mg base ["rows", "own", "channel", "row"] "all_channels" (defScope (top 32)) f cdv A outer s H E) rfl rfl rfl rfl
    have po := passes_of (X := CXo P w K mg base ["rows", "own", "channel", "row"] "all_channels" (defScope (top 32)) f cdv A outer s H E) rfl
    have nd := sc_all_channels.nd
    have z : ∃ t, DSs (CXo P w K mg base ["rows", "own", "channel", "row"] "all_channels" (defScope (top 32)) f cdv A outer s H E) (WEE E) (defBody (top 32)) t  D_all_channels := ⟨_, (z_cons (k_set 1 nd (e_call h_sure_lot_of_rows hr tk (a_cons (e_var 0) a_nil)))
    (z_one (k_ret (e_tuple G.B (a_cons (e_fz (x_lc [("channel", 2)] (g := (gName 2)) (tt := (tB (tCB (rAll K) (tCons (tLc (iSq K (tVar 1)) (gName 3) tYes (tOp (rIn K false) (tVar 2) (tVar 3)) [3]) tNil)))) (te := (tVar 2)) nd (j_seq (e_call h_channels_in hr tk (a_cons (e_ix (e_var 1) e_int) a_nil))) (fun _ _ _ _ _ => by exact (v_nm 2 nd)) (fun _ _ _ _ _ => by exact (y_one (t_val (e_all G.B (by rfl) (a_cons (e_fz (x_lc [("row", 3)] (g := (gName 3)) (tt := tYes) (te := (tOp (rIn K false) (tVar 2) (tVar 3))) nd (j_seq (e_var 1)) (fun _ _ _ _ _ => by exact (v_nm 3 nd)) (fun _ _ _ _ _ => by exact y_nil) (fun _ _ _ _ _ => by exact (e_in (e_var 2) (e_var 3))) (blkOk_by (by rfl)))) a_nil))))) (fun _ _ _ _ _ => by exact (e_var 2)) (blkOk_by (by rfl)))) a_nil)))))⟩
    obtain ⟨t, z⟩ := z
    exact ⟨t, z.p, z.w⟩)⟩

theorem sc_place_slot : FnScope (["one", "other", "phases", "places", "near", "far", "pairs", "own"] : List PySem.Str) ["one", "other", "phases", "places"] (defScope (top 38)) := ⟨rfl, rfl, rfl, by decide +kernel, rfl, by decide +kernel, by decide +kernel⟩
theorem h_place_slot {K : PySem.W.Frag} {mg : Str → Option Value} {P : Program} {w : World} {base : Heap} (G : Gf K mg) {f : Addr} {fd : FuncData} (F : FunD K "place_slot" "place_slot" (defArgs (top 38)) (defBody (top 38)) (defScope (top 38)) [] [] f fd) (gf : mg "place_slot" = some (.ref f)) (h_is_long : Has P w K mg base "is_long" 1 F_is_long) (h_is_within : Has P w K mg base "is_within" 2 F_is_within) (h_rest_slot : Has P w K mg base "rest_slot" 11 F_rest_slot) (h_sure_round : Has P w K mg base "sure_round" 4 F_sure_round) (h_tupled : Has P w K mg base "tupled" 10 F_tupled) : Has P w K mg base "place_slot" 12 F_place_slot :=
  ⟨f, fd, ["one", "other", "phases", "places"], gf, F.kp, F.bindsN fun _ _ _ _ _ _ us hl => match us, hl with | [_, _, _, _], _ => rfl, fn_pure F sc_place_slot D_place_slot (fun cdv A outer s H E hr => by
    have tk := takes_of (X := CXo P w K mg base ["one", "other", "phases", "places", "near", "far", "pairs", "own"] "place_slot" (defScope (top 38)) f cdv A outer s H E) rfl rfl rfl rfl
    have po := passes_of (X := CXo P w K mg base ["one", "other", "phases", "places", "near", "far", "pairs", "own"] "place_slot" (defScope (top 38)) f cdv A outer s H E) rfl
    have nd := sc_place_slot.nd
    have z : ∃ t, DSs (CXo P w K mg base ["one", "other", "phases", "places", "near", "far", "pairs", "own"] "place_slot" (defScope (top 38)) f cdv A outer s H E) (WEE E) (defBody (top 38)) t  D_place_slot := ⟨_, (z_cons (k_set 4 nd (e_call h_sure_round hr tk (a_cons (e_var 0) a_nil)))
    (z_cons (k_set 5 nd (e_call h_sure_round hr tk (a_cons (e_var 1) a_nil)))
    (z_cons (k_set 6 nd (e_fz (x_lst (a_cons (e_call h_tupled hr tk (a_cons (e_var 2) a_nil)) (a_cons (e_call h_tupled hr tk (a_cons (e_var 3) a_nil)) a_nil)))))
    (z_cons (k_for po (j_seq (e_var 6)) (n_name 7 nd) (z_one (k_if (t_q (q_or (t_not (t_val (e_call h_is_long hr tk (a_cons (e_var 7) (a_cons e_int a_nil))))) (q_or (t_not (t_val (e_call h_is_within hr tk (a_cons (e_ix (e_var 7) e_int) (a_cons e_int (a_cons (e_sub (e_var 4) e_int) a_nil)))))) (q_or1 (t_not (t_val (e_call h_is_within hr tk (a_cons (e_ix (e_var 7) e_int) (a_cons e_int (a_cons (e_sub (e_var 5) e_int) a_nil)))))))))) (z_one (k_raise tk G.r_Unfit)) z_nil)))
    (z_one (k_ret (e_call h_rest_slot hr tk (a_cons (e_var 4) (a_cons (e_var 5) (a_cons (e_tup (a_cons (e_mod (e_sub (e_ix (e_ix (e_var 6) e_int) e_int) (e_ix (e_ix (e_var 6) e_int) e_int)) (e_var 4)) (a_cons (e_mod (e_sub (e_ix (e_ix (e_var 6) e_int) e_int) (e_ix (e_ix (e_var 6) e_int) e_int)) (e_var 5)) a_nil))) a_nil))))))))))⟩
    obtain ⟨t, z⟩ := z
    exact ⟨t, z.p, z.w⟩)⟩

theorem sc__law_heard : FnScope (["one_so", "two", "rests_so", "caught", "told_so", "error"] : List PySem.Str) ["one_so", "two", "rests_so"] (defScope (top 46)) := ⟨rfl, rfl, rfl, by decide +kernel, rfl, by decide +kernel, by decide +kernel⟩
theorem h__law_heard {K : PySem.W.Frag} {mg : Str → Option Value} {P : Program} {w : World} {base : Heap} (G : Gf K mg) {f : Addr} {fd : FuncData} (F : FunD K "_law_heard" "_law_heard" (defArgs (top 46)) (defBody (top 46)) (defScope (top 46)) [] [] f fd) (gf : mg "_law_heard" = some (.ref f)) (h_rest_slot : Has P w K mg base "rest_slot" 11 F_rest_slot) : Has P w K mg base "_law_heard" 12 F__law_heard :=
  ⟨f, fd, ["one_so", "two", "rests_so"], gf, F.kp, F.bindsN fun _ _ _ _ _ _ us hl => match us, hl with | [_, _, _], _ => rfl, fn_pure F sc__law_heard D__law_heard (fun cdv A outer s H E hr => by
    have tk := takes_of (X := CXo P w K mg base ["one_so", "two", "rests_so", "caught", "told_so", "error"] "_law_heard" (defScope (top 46)) f cdv A outer s H E) rfl rfl rfl rfl
    have po := passes_of (X := CXo P w K mg base ["one_so", "two", "rests_so", "caught", "told_so", "error"] "_law_heard" (defScope (top 46)) f cdv A outer s H E) rfl
    have nd := sc__law_heard.nd
    have z : ∃ t, DSs (CXo P w K mg base ["one_so", "two", "rests_so", "caught", "told_so", "error"] "_law_heard" (defScope (top 46)) f cdv A outer s H E) (WEE E) (defBody (top 46)) t  D__law_heard := ⟨_, (z_cons (k_asg (e_tup (a_cons e_non (a_cons e_non a_nil))) (n_tup (by rfl) (n_cons (n_name 3 nd) (n_cons (n_name 4 nd) n_nil))))
    (z_cons (k_try1 5 3 4 (t0 := fun W => tCallS (spP K mg F_rest_slot) (L2.WE W) (tCons (tVar 0) (tCons (tVar 1) (tCons (tVar 2) tNil)))) (d0 := dCall F_rest_slot (aCons (dVar 0) (aCons (dVar 1) (aCons (dVar 2) aNil)))) nd G.B G.vE tk G.t_CanNot (fun W pn xe tk => by exact (DE.p (W := W) (d := dCall F_rest_slot (aCons (dVar 0) (aCons (dVar 1) (aCons (dVar 2) aNil)))) (e_call h_rest_slot hr tk (a_cons (e_var 0) (a_cons (e_var 1) (a_cons (e_var 2) a_nil)))))) (fun W => w_call (w_cons (w_var 0) (w_cons (w_var 1) (w_cons (w_var 2) w_nil)))))
    (z_one (k_ret (e_if (t_is (e_var 3) e_non) (e_var 4) (e_if (t_val (e_var 3)) e_non (e_neg e_int)))))))⟩
    obtain ⟨t, z⟩ := z
    exact ⟨t, z.p, z.w⟩)⟩

theorem sc_first_meet : FnScope (["one", "other", "phases", "near", "far"] : List PySem.Str) ["one", "other", "phases"] (defScope (top 22)) := ⟨rfl, rfl, rfl, by decide +kernel, rfl, by decide +kernel, by decide +kernel⟩
theorem h_first_meet {K : PySem.W.Frag} {mg : Str → Option Value} {P : Program} {w : World} {base : Heap} (G : Gf K mg) {f : Addr} {fd : FuncData} (F : FunD K "first_meet" "first_meet" (defArgs (top 22)) (defBody (top 22)) (defScope (top 22)) [] [] f fd) (gf : mg "first_meet" = some (.ref f)) (h_sure_phases : Has P w K mg base "sure_phases" 11 F_sure_phases) (h_sure_two : Has P w K mg base "sure_two" 12 F_sure_two) (h_time_in : Has P w K mg base "time_in" 3 F_time_in) : Has P w K mg base "first_meet" 13 F_first_meet :=
  ⟨f, fd, ["one", "other", "phases"], gf, F.kp, F.bindsN fun _ _ _ _ _ _ us hl => match us, hl with | [_, _, _], _ => rfl, fn_pure F sc_first_meet D_first_meet (fun cdv A outer s H E hr => by
    have tk := takes_of (X := CXo P w K mg base ["one", "other", "phases", "near", "far"] "first_meet" (defScope (top 22)) f cdv A outer s H E) rfl rfl rfl rfl
    have po := passes_of (X := CXo P w K mg base ["one", "other", "phases", "near", "far"] "first_meet" (defScope (top 22)) f cdv A outer s H E) rfl
    have nd := sc_first_meet.nd
    have z : ∃ t, DSs (CXo P w K mg base ["one", "other", "phases", "near", "far"] "first_meet" (defScope (top 22)) f cdv A outer s H E) (WEE E) (defBody (top 22)) t  D_first_meet := ⟨_, (z_cons (k_asg (e_call h_sure_two hr tk (a_cons (e_var 0) (a_cons (e_var 1) a_nil))) (n_tup (by rfl) (n_cons (n_name 3 nd) (n_cons (n_name 4 nd) n_nil))))
    (z_one (k_ret (e_call h_time_in hr tk (a_cons (e_var 3) (a_cons (e_var 4) (a_cons (e_call h_sure_phases hr tk (a_cons (e_var 3) (a_cons (e_var 4) (a_cons (e_var 2) a_nil)))) (a_cons e_non a_nil))))))))⟩
    obtain ⟨t, z⟩ := z
    exact ⟨t, z.p, z.w⟩)⟩

theorem sc_meetings_many : FnScope (["one", "other", "phases", "near", "far", "own", "found", "slot"] : List PySem.Str) ["one", "other", "phases"] (defScope (top 23)) := ⟨rfl, rfl, rfl, by decide +kernel, rfl, by decide +kernel, by decide +kernel⟩
theorem h_meetings_many {K : PySem.W.Frag} {mg : Str → Option Value} {P : Program} {w : World} {base : Heap} (G : Gf K mg) {f : Addr} {fd : FuncData} (F : FunD K "meetings_many" "meetings_many" (defArgs (top 23)) (defBody (top 23)) (defScope (top 23)) [] [] f fd) (gf : mg "meetings_many" = some (.ref f)) (h_sure_phases : Has P w K mg base "sure_phases" 11 F_sure_phases) (h_sure_two : Has P w K mg base "sure_two" 12 F_sure_two) (h_together_in : Has P w K mg base "together_in" 2 F_together_in) : Has P w K mg base "meetings_many" 13 F_meetings_many :=
  ⟨f, fd, ["one", "other", "phases"], gf, F.kp, F.bindsN fun _ _ _ _ _ _ us hl => match us, hl with | [_, _, _], _ => rfl, fn_pure F sc_meetings_many D_meetings_many (fun cdv A outer s H E hr => by
    have tk := takes_of (X := CXo P w K mg base ["one", "other", "phases", "near", "far", "own", "found", "slot"] "meetings_many" (defScope (top 23)) f cdv A outer s H E) rfl rfl rfl rfl
    have po := passes_of (X := CXo P w K mg base ["one", "other", "phases", "near", "far", "own", "found", "slot"] "meetings_many" (defScope (top 23)) f cdv A outer s H E) rfl
    have nd := sc_meetings_many.nd
    have z : ∃ t, DSs (CXo P w K mg base ["one", "other", "phases", "near", "far", "own", "found", "slot"] "meetings_many" (defScope (top 23)) f cdv A outer s H E) (WEE E) (defBody (top 23)) t  D_meetings_many := ⟨_, (z_cons (k_asg (e_call h_sure_two hr tk (a_cons (e_var 0) (a_cons (e_var 1) a_nil))) (n_tup (by rfl) (n_cons (n_name 3 nd) (n_cons (n_name 4 nd) n_nil))))
    (z_cons (k_set 5 nd (e_call h_sure_phases hr tk (a_cons (e_var 3) (a_cons (e_var 4) (a_cons (e_var 2) a_nil)))))
    (z_cons (k_set 6 nd e_int)
    (z_cons (k_for po (j_r1 G.B (a_cons (e_call h_together_in hr tk (a_cons (e_var 3) (a_cons (e_var 4) a_nil))) a_nil)) (n_name 7 nd) (z_one (k_aug 6 nd (e_int1 G.B (a_cons (e_eq hr (e_ix (e_var 3) (e_mod (e_add (e_ix (e_var 5) e_int) (e_var 7)) (e_len G.B (a_cons (e_var 3) a_nil)))) (e_ix (e_var 4) (e_mod (e_add (e_ix (e_var 5) e_int) (e_var 7)) (e_len G.B (a_cons (e_var 4) a_nil))))) a_nil)))))
    (z_one (k_ret (e_var 6)))))))⟩
    obtain ⟨t, z⟩ := z
    exact ⟨t, z.p, z.w⟩)⟩

theorem sc__law_right : FnScope (["tin", "longs_so", "rests_so", "lone_so", "due", "pairs_so", "twos_so", "a", "b", "c", "near", "both_so", "rows_so", "got", "phases_so", "later_so", "told_so", "once_so", "k", "own", "n"] : List PySem.Str) ["tin"] (defScope (top 49)) := ⟨rfl, rfl, rfl, by decide +kernel, rfl, by decide +kernel, by decide +kernel⟩
theorem h__law_right {K : PySem.W.Frag} {mg : Str → Option Value} {P : Program} {w : World} {base : Heap} (G : Gf K mg) {f : Addr} {fd : FuncData} (F : FunD K "_law_right" "_law_right" (defArgs (top 49)) (defBody (top 49)) (defScope (top 49)) [] [] f fd) (gf : mg "_law_right" = some (.ref f)) (h__law_both : Has P w K mg base "_law_both" 2 F__law_both) (h__law_heard : Has P w K mg base "_law_heard" 12 F__law_heard) (h__law_least : Has P w K mg base "_law_least" 2 F__law_least) (h__law_of : HasT P w K mg base "_law_of" 2 F__law_of) (h__law_same : Has P w K mg base "_law_same" 10 F__law_same) (h__law_take : HasT P w K mg base "_law_take" 1 F__law_take) (h_all_channels : Has P w K mg base "all_channels" 12 F_all_channels) (h_all_first : Has P w K mg base "all_first" 12 F_all_first) (h_first_meet : Has P w K mg base "first_meet" 13 F_first_meet) (h_meetings_many : Has P w K mg base "meetings_many" 13 F_meetings_many) (h_place_slot : Has P w K mg base "place_slot" 12 F_place_slot) : HasT P w K mg base "_law_right" 14 F__law_right :=
  ⟨f, fd, ["tin"], gf, F.kp, F.bindsN fun _ _ _ _ _ _ us hl => match us, hl with | [_], _ => rfl, fn_tin F sc__law_right D__law_right (fun cdv A outer s H E hr => by
    have tk := takes_of (X := CXo P w K mg base ["tin", "longs_so", "rests_so", "lone_so", "due", "pairs_so", "twos_so", "a", "b", "c", "near", "both_so", "rows_so", "got", "phases_so", "later_so", "told_so", "once_so", "k", "own", "n"] "_law_right" (defScope (top 49)) f cdv A outer s H E) rfl rfl rfl rfl
    have po := passes_of (X := CXo P w K mg base ["tin", "longs_so", "rests_so", "lone_so", "due", "pairs_so", "twos_so", "a", "b", "c", "near", "both_so", "rows_so", "got", "phases_so", "later_so", "told_so", "once_so", "k", "own", "n"] "_law_right" (defScope (top 49)) f cdv A outer s H E) rfl
    have nd := sc__law_right.nd
    have z : ∃ t, DSs (CXo P w K mg base ["tin", "longs_so", "rests_so", "lone_so", "due", "pairs_so", "twos_so", "a", "b", "c", "near", "both_so", "rows_so", "got", "phases_so", "later_so", "told_so", "once_so", "k", "own", "n"] "_law_right" (defScope (top 49)) f cdv A outer s H E) (WEE E) (defBody (top 49)) t  D__law_right := ⟨_, (z_cons (k_set 1 nd (e_fz (x_lc [("k", 18)] (g := (gName 18)) (tt := tYes) (te := (tOp (rAddU K) (tC (.int 1)) (tCallS (spT K mg F__law_take) (L2.WE W0) (tCons (tVar 0) (tCons (tC (.int 12)) tNil))))) nd (j_r1 G.B (a_cons e_int a_nil)) (fun _ _ _ _ _ => by exact (v_nm 18 nd)) (fun _ _ _ _ _ => by exact y_nil) (fun _ _ _ _ _ => by exact (e_add e_int (e_callT 0 h__law_take hr takes0 (a_cons e_int a_nil)))) (blkOk_by (by rfl)))))
    (z_cons (k_if (t_eq hr (e_callT 0 h__law_take hr tk (a_cons e_int a_nil)) e_int) (z_one (k_set 1 nd (e_fz (x_list G.B (a_cons (e_callT 0 h__law_of hr tk (a_cons (e_fz (x_lst (a_cons (e_tup (a_cons e_int (a_cons e_int (a_cons e_int a_nil)))) (a_cons (e_tup (a_cons e_int (a_cons e_int (a_cons e_int a_nil)))) (a_cons (e_tup (a_cons e_int (a_cons e_int (a_cons e_int a_nil)))) (a_cons (e_tup (a_cons e_int (a_cons e_int (a_cons e_int a_nil)))) (a_cons (e_tup (a_cons e_int (a_cons e_int (a_cons e_int a_nil)))) (a_cons (e_tup (a_cons e_int (a_cons e_int (a_cons e_int a_nil)))) (a_cons (e_tup (a_cons e_int (a_cons e_int (a_cons e_int a_nil)))) a_nil))))))))) a_nil)) a_nil))))) z_nil)
    (z_cons (k_set 2 nd (e_fz (x_lc [("own", 19)] (g := (gName 19)) (tt := tYes) (te := (tCallS (spT K mg F__law_take) (L2.WE W0) (tCons (tVar 0) (tCons (tVar 19) tNil)))) nd (j_seq (e_var 1)) (fun _ _ _ _ _ => by exact (v_nm 19 nd)) (fun _ _ _ _ _ => by exact y_nil) (fun _ _ _ _ _ => by exact (e_callT 0 h__law_take hr takes0 (a_cons (e_var 19) a_nil))) (blkOk_by (by rfl)))))
    (z_cons (k_if (t_eq hr (e_callT 0 h__law_take hr tk (a_cons e_int a_nil)) e_int) (z_cons (k_set 3 nd (e_callT 0 h__law_take hr tk (a_cons e_int a_nil)))
    (z_one (k_set 2 nd (e_fz (x_lc [("own", 19)] (g := (gName 19)) (tt := tYes) (te := (tOp (rI (fun _ j => 0 < j) fun i j => .int (i % j)) (tVar 3) (tVar 19))) nd (j_seq (e_var 1)) (fun _ _ _ _ _ => by exact (v_nm 19 nd)) (fun _ _ _ _ _ => by exact y_nil) (fun _ _ _ _ _ => by exact (e_mod (e_var 3) (e_var 19))) (blkOk_by (by rfl))))))) z_nil)
    (z_cons (k_set 4 nd (e_call h__law_least hr tk (a_cons (e_var 1) (a_cons (e_var 2) a_nil))))
    (z_cons (k_set 5 nd (e_fz (x_lst (a_cons (e_tup (a_cons e_int (a_cons e_int a_nil))) (a_cons (e_tup (a_cons e_int (a_cons e_int a_nil))) (a_cons (e_tup (a_cons e_int (a_cons e_int a_nil))) a_nil))))))
    (z_cons (k_lc 6 [("a", 7), ("b", 8)] (g := (gTup K 2 (gCons (gName 7) (gCons (gName 8) gNil)))) (tt := tYes) (te := (tCallS (spP K mg F__law_heard) (L2.WE W0) (tCons (tOp (rIx K) (tVar 1) (tVar 7)) (tCons (tOp (rIx K) (tVar 1) (tVar 8)) (tCons (tTup (tCons (tOp (rIx K) (tVar 2) (tVar 7)) (tCons (tOp (rIx K) (tVar 2) (tVar 8)) tNil))) tNil))))) nd (j_seq (e_var 5)) (fun _ _ _ _ _ => by exact (v_tp (by rfl) (v_cn (v_nm 7 nd) (v_cn (v_nm 8 nd) v_nl)))) (fun _ _ _ _ _ => by exact y_nil) (fun _ _ _ _ _ => by exact (e_call h__law_heard hr takes0 (a_cons (e_ix (e_var 1) (e_var 7)) (a_cons (e_ix (e_var 1) (e_var 8)) (a_cons (e_tup (a_cons (e_ix (e_var 2) (e_var 7)) (a_cons (e_ix (e_var 2) (e_var 8)) a_nil))) a_nil))))) (blkOk_by (by rfl)) (by rfl))
    (z_cons (k_if (t_not (t_val (e_call h__law_same hr tk (a_cons (e_var 6) (a_cons (e_fz (x_lc [("a", 7), ("b", 8)] (g := (gTup K 2 (gCons (gName 7) (gCons (gName 8) gNil)))) (tt := tYes) (te := (tCallS (spP K mg F__law_least) (L2.WE W0) (tCons (tLst (tCons (tOp (rIx K) (tVar 1) (tVar 7)) (tCons (tOp (rIx K) (tVar 1) (tVar 8)) tNil))) (tCons (tLst (tCons (tOp (rIx K) (tVar 2) (tVar 7)) (tCons (tOp (rIx K) (tVar 2) (tVar 8)) tNil))) tNil)))) nd (j_seq (e_var 5)) (fun _ _ _ _ _ => by exact (v_tp (by rfl) (v_cn (v_nm 7 nd) (v_cn (v_nm 8 nd) v_nl)))) (fun _ _ _ _ _ => by exact y_nil) (fun _ _ _ _ _ => by exact (e_call h__law_least hr takes0 (a_cons (e_fz (x_lst (a_cons (e_ix (e_var 1) (e_var 7)) (a_cons (e_ix (e_var 1) (e_var 8)) a_nil)))) (a_cons (e_fz (x_lst (a_cons (e_ix (e_var 2) (e_var 7)) (a_cons (e_ix (e_var 2) (e_var 8)) a_nil)))) a_nil)))) (blkOk_by (by rfl)))) a_nil))))) (z_one (k_ret e_bl)) z_nil)
    (z_cons (k_if (t_ne hr (e_isnt (e_var 4) e_non) (e_nin e_non (e_var 6))) (z_one (k_ret e_bl)) z_nil)
    (z_cons (k_for po (j_seq (e_fz (x_lst (a_cons (e_tup (a_cons e_int (a_cons e_int (a_cons e_int a_nil)))) (a_cons (e_tup (a_cons e_int (a_cons e_int (a_cons e_int a_nil)))) (a_cons (e_tup (a_cons e_int (a_cons e_int (a_cons e_int a_nil)))) a_nil)))))) (n_tup (by rfl) (n_cons (n_name 7 nd) (n_cons (n_name 8 nd) (n_cons (n_name 9 nd) n_nil)))) (z_cons (k_set 10 nd (e_call h__law_heard hr tk (a_cons (e_ix (e_var 1) (e_var 7)) (a_cons (e_ix (e_var 1) (e_var 8)) (a_cons (e_tup (a_cons (e_ix (e_var 2) (e_var 7)) (a_cons (e_ix (e_var 2) (e_var 8)) a_nil))) a_nil)))))
    (z_one (k_if (t_isnt (e_var 10) e_non) (z_cons (k_set 11 nd (e_call h__law_both hr tk (a_cons (e_ix (e_var 1) (e_var 7)) (a_cons (e_ix (e_var 1) (e_var 8)) a_nil))))
    (z_one (k_if (t_not (t_val (e_call h__law_same hr tk (a_cons (e_fz (x_lst (a_cons (e_call h__law_heard hr tk (a_cons (e_var 11) (a_cons (e_ix (e_var 1) (e_var 9)) (a_cons (e_fz (x_lst (a_cons (e_var 10) (a_cons (e_ix (e_var 2) (e_var 9)) a_nil)))) a_nil)))) (a_cons (e_call h__law_heard hr tk (a_cons (e_ix (e_var 1) (e_var 9)) (a_cons (e_var 11) (a_cons (e_tup (a_cons (e_ix (e_var 2) (e_var 9)) (a_cons (e_var 10) a_nil))) a_nil)))) a_nil)))) (a_cons (e_fz (x_lst (a_cons (e_var 4) (a_cons (e_var 4) a_nil)))) a_nil))))) (z_one (k_ret e_bl)) z_nil))) z_nil))))
    (z_cons (k_lc 12 [("n", 20)] (g := (gName 20)) (tt := tYes) (te := (tCB (rTp K) (tCons (tLc (iRng1 (tCons (tOp (rIx K) (tVar 1) (tVar 20)) tNil)) (gName 18) tYes (L2.tIf (tTest (tOp (rEqD K) (tVar 18) (tOp (rIx K) (tVar 2) (tVar 20)))) (tC (.int 1)) (tOp (rAddU K) (tC (.int 2)) (tVar 20))) [18]) tNil))) nd (j_r1 G.B (a_cons e_int a_nil)) (fun _ _ _ _ _ => by exact (v_nm 20 nd)) (fun _ _ _ _ _ => by exact y_nil) (fun _ _ _ _ _ => by exact (e_tuple G.B (a_cons (e_fz (x_lc [("k", 18)] (g := (gName 18)) (tt := tYes) (te := (L2.tIf (tTest (tOp (rEqD K) (tVar 18) (tOp (rIx K) (tVar 2) (tVar 20)))) (tC (.int 1)) (tOp (rAddU K) (tC (.int 2)) (tVar 20)))) nd (j_r1 G.B (a_cons (e_ix (e_var 1) (e_var 20)) a_nil)) (fun _ _ _ _ _ => by exact (v_nm 18 nd)) (fun _ _ _ _ _ => by exact y_nil) (fun _ _ _ _ _ => by exact (e_if (t_eq hr (e_var 18) (e_ix (e_var 2) (e_var 20))) e_int (e_add e_int (e_var 20)))) (blkOk_by (by rfl)))) a_nil))) (blkOk_by (by rfl)) (by rfl))
    (z_cons (k_set 13 nd (e_fz (x_lst (a_cons (e_call h_all_first hr tk (a_cons (e_tuple G.B (a_cons (e_var 12) a_nil)) (a_cons (e_tup (a_cons e_int (a_cons e_int (a_cons e_int a_nil)))) a_nil))) (a_cons (e_call h_all_channels hr tk (a_cons (e_var 12) a_nil)) (a_cons (e_call h_first_meet hr tk (a_cons (e_ix (e_var 12) e_int) (a_cons (e_ix (e_var 12) e_int) (a_cons (e_tup (a_cons e_int (a_cons e_int a_nil))) a_nil)))) a_nil))))))
    (z_cons (k_if (t_not (t_val (e_call h__law_same hr tk (a_cons (e_var 13) (a_cons (e_fz (x_lst (a_cons (e_if (t_isnt (e_var 4) e_non) (e_add (e_var 4) e_int) e_non) (a_cons (e_tup (a_cons e_int a_nil)) (a_cons (e_if (t_isnt (e_ix (e_var 6) e_int) e_non) (e_add (e_ix (e_var 6) e_int) e_int) e_non) a_nil))))) a_nil))))) (z_one (k_ret e_bl)) z_nil)
    (z_cons (k_set 14 nd (e_fz (x_lc [("own", 19)] (g := (gName 19)) (tt := tYes) (te := (tCallS (spT K mg F__law_take) (L2.WE W0) (tCons (tVar 0) (tCons (tVar 19) tNil)))) nd (j_seq (e_var 1)) (fun _ _ _ _ _ => by exact (v_nm 19 nd)) (fun _ _ _ _ _ => by exact y_nil) (fun _ _ _ _ _ => by exact (e_callT 0 h__law_take hr takes0 (a_cons (e_var 19) a_nil))) (blkOk_by (by rfl)))))
    (z_cons (k_lc 15 [("k", 18)] (g := (gName 18)) (tt := tYes) (te := (tOp (rI (fun _ j => 0 < j) fun i j => .int (i % j)) (tOp (rI0 fun i j => .int (i - j)) (tOp (rIx K) (tVar 2) (tVar 18)) (tOp (rIx K) (tVar 14) (tVar 18))) (tOp (rIx K) (tVar 1) (tVar 18)))) nd (j_r1 G.B (a_cons e_int a_nil)) (fun _ _ _ _ _ => by exact (v_nm 18 nd)) (fun _ _ _ _ _ => by exact y_nil) (fun _ _ _ _ _ => by exact (e_mod (e_sub (e_ix (e_var 2) (e_var 18)) (e_ix (e_var 14) (e_var 18))) (e_ix (e_var 1) (e_var 18)))) (blkOk_by (by rfl)) (by rfl))
    (z_cons (k_set 4 nd (e_call h__law_least hr tk (a_cons (e_var 1) (a_cons (e_var 15) a_nil))))
    (z_cons (k_if (t_not (t_val (e_call h__law_same hr tk (a_cons (e_call h_all_first hr tk (a_cons (e_var 12) (a_cons (e_var 14) a_nil))) (a_cons (e_if (t_isnt (e_var 4) e_non) (e_add (e_var 4) e_int) e_non) a_nil))))) (z_one (k_ret e_bl)) z_nil)
    (z_cons (k_if (t_isnt (e_var 4) e_non) (z_cons (k_set 16 nd (e_call h_place_slot hr tk (a_cons (e_ix (e_var 1) e_int) (a_cons (e_ix (e_var 1) e_int) (a_cons (e_tup (a_cons (e_ix (e_var 14) e_int) (a_cons (e_ix (e_var 14) e_int) a_nil))) (a_cons (e_tup (a_cons (e_ix (e_var 2) e_int) (a_cons (e_ix (e_var 2) e_int) a_nil))) a_nil))))))
    (z_one (k_if (t_q (q_or (t_not (t_val (e_call h__law_same hr tk (a_cons (e_var 16) (a_cons (e_call h__law_least hr tk (a_cons (e_sl (e_var 1) (p_som e_int) p_non) (a_cons (e_sl (e_var 15) (p_som e_int) p_non) a_nil))) a_nil))))) (q_or1 (t_ne hr (e_mod (e_var 4) (e_call h__law_both hr tk (a_cons (e_ix (e_var 1) e_int) (a_cons (e_ix (e_var 1) e_int) a_nil)))) (e_var 16))))) (z_one (k_ret e_bl)) z_nil))) z_nil)
    (z_cons (k_set 17 nd (e_call h__law_least hr tk (a_cons (e_sl (e_var 1) p_non (p_som e_int)) (a_cons (e_sl (e_var 15) p_non (p_som e_int)) a_nil))))
    (z_one (k_ret (e_call h__law_same hr tk (a_cons (e_call h_meetings_many hr tk (a_cons (e_ix (e_var 12) e_int) (a_cons (e_ix (e_var 12) e_int) (a_cons (e_tup (a_cons (e_ix (e_var 14) e_int) (a_cons (e_ix (e_var 14) e_int) a_nil))) a_nil)))) (a_cons (e_if (t_isnt (e_var 17) e_non) e_int e_int) a_nil))))))))))))))))))))))))⟩
    obtain ⟨t, z⟩ := z
    exact ⟨t, z.p, z.w⟩)⟩

theorem sc_law : FnScope (["script", "cells_so", "n", "tin", "lap"] : List PySem.Str) ["script"] (defScope (top 50)) := ⟨rfl, rfl, rfl, by decide +kernel, rfl, by decide +kernel, by decide +kernel⟩
theorem ok_law {K : PySem.W.Frag} {mg : Str → Option Value} {P : Program} {w : World} {base : Heap} (G : Gf K mg) {f : Addr} {fd : FuncData} (F : FunD K "law" "law" (defArgs (top 50)) (defBody (top 50)) (defScope (top 50)) [] [] f fd) (gf : mg "law" = some (.ref f)) (h__law_box : Has P w K mg base "_law_box" 1 F__law_box) (h__law_cells : Has P w K mg base "_law_cells" 1 F__law_cells) (h__law_right : HasT P w K mg base "_law_right" 14 F__law_right) : FnOk P w K mg base (L2.CX P w) 15 f fd ["script"] (spP K mg F_law) :=
  fn_pure F sc_law D_law (fun cdv A outer s H E hr => by
    have tk := takes_of (X := CXo P w K mg base ["script", "cells_so", "n", "tin", "lap"] "law" (defScope (top 50)) f cdv A outer s H E) rfl rfl rfl rfl
    have po := passes_of (X := CXo P w K mg base ["script", "cells_so", "n", "tin", "lap"] "law" (defScope (top 50)) f cdv A outer s H E) rfl
    have nd := sc_law.nd
    have z : ∃ t, DSs (CXo P w K mg base ["script", "cells_so", "n", "tin", "lap"] "law" (defScope (top 50)) f cdv A outer s H E) (WEE E) (defBody (top 50)) t  D_law := ⟨_, (z_cons (k_set 1 nd (e_call h__law_cells hr tk (a_cons (e_var 0) (a_cons e_int a_nil))))
    (z_cons (k_for po (j_r1 G.B (a_cons (e_len G.B (a_cons (e_var 1) a_nil)) a_nil)) (n_name 2 nd) (z_cons (k_setO 3 nd (x_call h__law_box hr tk (a_cons (e_var 1) (a_cons (e_var 2) a_nil))))
    (z_one (k_if (t_not (t_val (e_all G.B (by rfl) (a_cons (e_fz (x_lc [("lap", 4)] (g := (gName 4)) (tt := tYes) (te := (tCallS (spT K mg F__law_right) (L2.WE W0) (tCons (tVar 3) tNil))) nd (j_r1 G.B (a_cons e_int a_nil)) (fun _ _ _ _ _ => by exact (v_nm 4 nd)) (fun _ _ _ _ _ => by exact y_nil) (fun _ _ _ _ _ => by exact (e_callT 3 h__law_right hr takes0 a_nil)) (blkOk_by (by rfl)))) a_nil)))) (z_one (k_ret e_bl)) z_nil))))
    (z_one (k_ret e_bl))))⟩
    obtain ⟨t, z⟩ := z
    exact ⟨t, z.p, z.w⟩)
end WK

set_option Elab.async false
set_option linter.all false
set_option maxRecDepth 100000
set_option maxHeartbeats 2000000
set_option pp.maxSteps 30
set_option pp.oneline true
namespace WK
open PySem PySem.Spec PyProof.Rows L2 DL
/-! ### the head -/
def d5 : He.DefD := ⟨("is_number", none), "is_number", "is_number", defArgs (top 5), defBody (top 5), defScope (top 5), [], []⟩
def d6 : He.DefD := ⟨("is_within", none), "is_within", "is_within", defArgs (top 6), defBody (top 6), defScope (top 6), [], []⟩
def d7 : He.DefD := ⟨("sure_within", none), "sure_within", "sure_within", defArgs (top 7), defBody (top 7), defScope (top 7), [], []⟩
def d8 : He.DefD := ⟨("is_long", none), "is_long", "is_long", defArgs (top 8), defBody (top 8), defScope (top 8), [], []⟩
def d9 : He.DefD := ⟨("tupled", none), "tupled", "tupled", defArgs (top 9), defBody (top 9), defScope (top 9), [], []⟩
def d10 : He.DefD := ⟨("common", none), "common", "common", defArgs (top 10), defBody (top 10), defScope (top 10), [], []⟩
def d14 : He.DefD := ⟨("is_row_in", none), "is_row_in", "is_row_in", defArgs (top 14), defBody (top 14), defScope (top 14), [], []⟩
def d15 : He.DefD := ⟨("sure_hops", none), "sure_hops", "sure_hops", defArgs (top 15), defBody (top 15), defScope (top 15), [], []⟩
def d16 : He.DefD := ⟨("channels_in", none), "channels_in", "channels_in", defArgs (top 16), defBody (top 16), defScope (top 16), [], []⟩
def d17 : He.DefD := ⟨("together_in", none), "together_in", "together_in", defArgs (top 17), defBody (top 17), defScope (top 17), [], []⟩
def d19 : He.DefD := ⟨("sure_phases", none), "sure_phases", "sure_phases", defArgs (top 19), defBody (top 19), defScope (top 19), [], []⟩
def d20 : He.DefD := ⟨("time_in", none), "time_in", "time_in", defArgs (top 20), defBody (top 20), defScope (top 20), [], []⟩
def d21 : He.DefD := ⟨("sure_two", none), "sure_two", "sure_two", defArgs (top 21), defBody (top 21), defScope (top 21), [], []⟩
def d22 : He.DefD := ⟨("first_meet", none), "first_meet", "first_meet", defArgs (top 22), defBody (top 22), defScope (top 22), [], []⟩
def d23 : He.DefD := ⟨("meetings_many", none), "meetings_many", "meetings_many", defArgs (top 23), defBody (top 23), defScope (top 23), [], []⟩
def d27 : He.DefD := ⟨("sure_lot_of_rows", none), "sure_lot_of_rows", "sure_lot_of_rows", defArgs (top 27), defBody (top 27), defScope (top 27), [], []⟩
def d28 : He.DefD := ⟨("round_of", none), "round_of", "round_of", defArgs (top 28), defBody (top 28), defScope (top 28), [], []⟩
def d29 : He.DefD := ⟨("sure_places", none), "sure_places", "sure_places", defArgs (top 29), defBody (top 29), defScope (top 29), [], []⟩
def d30 : He.DefD := ⟨("all_time_in", none), "all_time_in", "all_time_in", defArgs (top 30), defBody (top 30), defScope (top 30), [], []⟩
def d31 : He.DefD := ⟨("all_first", none), "all_first", "all_first", defArgs (top 31), defBody (top 31), defScope (top 31), [], []⟩
def d32 : He.DefD := ⟨("all_channels", none), "all_channels", "all_channels", defArgs (top 32), defBody (top 32), defScope (top 32), [], []⟩
def d34 : He.DefD := ⟨("sure_round", none), "sure_round", "sure_round", defArgs (top 34), defBody (top 34), defScope (top 34), [], []⟩
def d36 : He.DefD := ⟨("contrary_by", none), "contrary_by", "contrary_by", defArgs (top 36), defBody (top 36), defScope (top 36), [], []⟩
def d37 : He.DefD := ⟨("rest_slot", none), "rest_slot", "rest_slot", defArgs (top 37), defBody (top 37), defScope (top 37), [], []⟩
def d38 : He.DefD := ⟨("place_slot", none), "place_slot", "place_slot", defArgs (top 38), defBody (top 38), defScope (top 38), [], []⟩
def d40 : He.DefD := ⟨("_law_box", none), "_law_box", "_law_box", defArgs (top 40), defBody (top 40), defScope (top 40), [], []⟩
def d41 : He.DefD := ⟨("_law_take", none), "_law_take", "_law_take", defArgs (top 41), defBody (top 41), defScope (top 41), [], []⟩
def d42 : He.DefD := ⟨("_law_cells", none), "_law_cells", "_law_cells", defArgs (top 42), defBody (top 42), defScope (top 42), [], []⟩
def d43 : He.DefD := ⟨("_law_of", none), "_law_of", "_law_of", defArgs (top 43), defBody (top 43), defScope (top 43), [], []⟩
def d44 : He.DefD := ⟨("_law_same", none), "_law_same", "_law_same", defArgs (top 44), defBody (top 44), defScope (top 44), [], []⟩
def d45 : He.DefD := ⟨("_law_common", none), "_law_common", "_law_common", defArgs (top 45), defBody (top 45), defScope (top 45), [], []⟩
def d46 : He.DefD := ⟨("_law_heard", none), "_law_heard", "_law_heard", defArgs (top 46), defBody (top 46), defScope (top 46), [], []⟩
def d47 : He.DefD := ⟨("_law_least", none), "_law_least", "_law_least", defArgs (top 47), defBody (top 47), defScope (top 47), [], []⟩
def d48 : He.DefD := ⟨("_law_both", none), "_law_both", "_law_both", defArgs (top 48), defBody (top 48), defScope (top 48), [], []⟩
def d49 : He.DefD := ⟨("_law_right", none), "_law_right", "_law_right", defArgs (top 49), defBody (top 49), defScope (top 49), [], []⟩
def d50 : He.DefD := ⟨("law", none), "law", "law", defArgs (top 50), defBody (top 50), defScope (top 50), [], []⟩
def fn : List He.DefD := [d5, d6, d7, d8, d9, d10, d14, d15, d16, d17, d19, d20, d21, d22, d23, d27, d28, d29, d30, d31, d32, d34, d36, d37, d38, d40, d41, d42, d43, d44, d45, d46, d47, d48, d49, d50]
def fa0 : List He.Fa := [.glo "is_number", .glo "is_within", .glo "sure_within", .glo "is_long", .glo "tupled", .glo "common", .glo "is_row_in", .glo "sure_hops", .glo "channels_in", .glo "together_in", .glo "sure_phases", .glo "time_in", .glo "sure_two", .glo "first_meet", .glo "meetings_many", .glo "sure_lot_of_rows", .glo "round_of", .glo "sure_places", .glo "all_time_in", .glo "all_first", .glo "all_channels", .glo "sure_round", .glo "contrary_by", .glo "rest_slot", .glo "place_slot", .glo "_law_box", .glo "_law_take", .glo "_law_cells", .glo "_law_of", .glo "_law_same", .glo "_law_common", .glo "_law_heard", .glo "_law_least", .glo "_law_both", .glo "_law_right", .glo "law", .free "ValueError", .free "abs", .free "all", .free "any"]
def fa1 : List He.Fa := [.free "bool", .free "enumerate", .free "int", .free "isinstance", .free "len", .free "list", .free "max", .free "min", .free "range", .free "set", .free "sorted", .free "str", .free "sum", .free "tuple", .free "zip", .glo "CanNot", .exc "CanNot", .glo "TooMany", .exc "TooMany", .glo "Unfit", .exc "Unfit", .int "MOST_CHANNEL" 30, .int "MOST_ROW" 400, .int "MOST_WHO" 5, .int "MOST_TOGETHER" 100000]
def fa : List He.Fa := fa0 ++ fa1
def nms0 : List PySem.Str := ["CanNot", "TooMany", "Unfit", "is_number", "is_within", "sure_within", "is_long", "tupled", "common", "MOST_CHANNEL", "MOST_ROW", "is_row_in", "sure_hops", "channels_in", "together_in", "sure_phases", "time_in", "sure_two", "first_meet", "meetings_many"]
def nms1 : List PySem.Str := ["MOST_WHO", "MOST_TOGETHER", "sure_lot_of_rows", "round_of", "sure_places", "all_time_in", "all_first", "all_channels", "sure_round", "contrary_by", "rest_slot", "place_slot", "_law_box", "_law_take", "_law_cells", "_law_of", "_law_same", "_law_common", "_law_heard", "_law_least"]
def nms2 : List PySem.Str := ["_law_both", "_law_right"]
def nms : List PySem.Str := nms0 ++ nms1 ++ nms2
def ex (K : PySem.W.Frag) : Bool := ecB "CanNot" K
abbrev R : PySem.W.OpenRow := PySem.W.OpenLaw.row PySem.Challenge.rw_meetwithin_k57_main_three_lengths_come_t
abbrev hk : PySem.W.Hook := hookE 4 fa fn ex
def ob (s : PySem.W.SharedT) : He.AlD × Bool := obsE 4 fa fn ex (HandSHeadRun.getT s)
theorem ob_eq (s : PySem.W.SharedT) : ob s = hk.obs s.abs := obsE_eq (HandSHeadRun.getT_eq s)
theorem run (w : World) : HandSHeadRun.RunEq R (PySem.W.view R.prog [50]) hk ob 8000 nms w := by
  intro os
  kernel_rfl
theorem facts {P : Program} {w : World} {K : PySem.W.Frag} {h : Heap} {mg : Str → Option Value} {f : Addr} (X : K.In h) (G : h.Ns mainGlobals mg) (hfa : mg ("law" : Str) = some (.ref f)) (c : He.SaysD fa fn K) (ce : ex K = true) :
    ∃ fd : FuncData, (∀ (s : Shared) (v : Value), BindsTo s fd ⟨[v], []⟩ [("script", v)]) ∧ ∀ base : Heap, K.In base → base.Ns mainGlobals mg → FnOk P w K mg base CX0 15 f fd ["script"] (spL K mg F_law) := by
  obtain ⟨fd5, X5⟩ := c.def_ 0 (d := d5) rfl
  obtain ⟨fd6, X6⟩ := c.def_ 1 (d := d6) rfl
  obtain ⟨fd7, X7⟩ := c.def_ 2 (d := d7) rfl
  obtain ⟨fd8, X8⟩ := c.def_ 3 (d := d8) rfl
  obtain ⟨fd9, X9⟩ := c.def_ 4 (d := d9) rfl
  obtain ⟨fd10, X10⟩ := c.def_ 5 (d := d10) rfl
  obtain ⟨fd14, X14⟩ := c.def_ 6 (d := d14) rfl
  obtain ⟨fd15, X15⟩ := c.def_ 7 (d := d15) rfl
  obtain ⟨fd16, X16⟩ := c.def_ 8 (d := d16) rfl
  obtain ⟨fd17, X17⟩ := c.def_ 9 (d := d17) rfl
  obtain ⟨fd19, X19⟩ := c.def_ 10 (d := d19) rfl
  obtain ⟨fd20, X20⟩ := c.def_ 11 (d := d20) rfl
  obtain ⟨fd21, X21⟩ := c.def_ 12 (d := d21) rfl
  obtain ⟨fd22, X22⟩ := c.def_ 13 (d := d22) rfl
  obtain ⟨fd23, X23⟩ := c.def_ 14 (d := d23) rfl
  obtain ⟨fd27, X27⟩ := c.def_ 15 (d := d27) rfl
  obtain ⟨fd28, X28⟩ := c.def_ 16 (d := d28) rfl
  obtain ⟨fd29, X29⟩ := c.def_ 17 (d := d29) rfl
  obtain ⟨fd30, X30⟩ := c.def_ 18 (d := d30) rfl
  obtain ⟨fd31, X31⟩ := c.def_ 19 (d := d31) rfl
  obtain ⟨fd32, X32⟩ := c.def_ 20 (d := d32) rfl
  obtain ⟨fd34, X34⟩ := c.def_ 21 (d := d34) rfl
  obtain ⟨fd36, X36⟩ := c.def_ 22 (d := d36) rfl
  obtain ⟨fd37, X37⟩ := c.def_ 23 (d := d37) rfl
  obtain ⟨fd38, X38⟩ := c.def_ 24 (d := d38) rfl
  obtain ⟨fd40, X40⟩ := c.def_ 25 (d := d40) rfl
  obtain ⟨fd41, X41⟩ := c.def_ 26 (d := d41) rfl
  obtain ⟨fd42, X42⟩ := c.def_ 27 (d := d42) rfl
  obtain ⟨fd43, X43⟩ := c.def_ 28 (d := d43) rfl
  obtain ⟨fd44, X44⟩ := c.def_ 29 (d := d44) rfl
  obtain ⟨fd45, X45⟩ := c.def_ 30 (d := d45) rfl
  obtain ⟨fd46, X46⟩ := c.def_ 31 (d := d46) rfl
  obtain ⟨fd47, X47⟩ := c.def_ 32 (d := d47) rfl
  obtain ⟨fd48, X48⟩ := c.def_ 33 (d := d48) rfl
  obtain ⟨fd49, X49⟩ := c.def_ 34 (d := d49) rfl
  obtain ⟨fd50, X50⟩ := c.def_ 35 (d := d50) rfl
  have e := hfa.symm.trans (He.glo_ok X G (c.fact 35 (f := .glo "law") rfl))
  cases e
  have ce2 := ce
  simp only [ex, Bool.and_eq_true] at ce2
  have Gg : Gf K mg := ⟨⟨(He.free_ok X G (c.fact 44 (f := .free "len") rfl)), (He.free_ok X G (c.fact 37 (f := .free "abs") rfl)), (He.free_ok X G (c.fact 42 (f := .free "int") rfl)), (He.free_ok X G (c.fact 40 (f := .free "bool") rfl)), (He.free_ok X G (c.fact 51 (f := .free "str") rfl)), (He.free_ok X G (c.fact 45 (f := .free "list") rfl)), (He.free_ok X G (c.fact 53 (f := .free "tuple") rfl)), (He.free_ok X G (c.fact 49 (f := .free "set") rfl)), (He.free_ok X G (c.fact 48 (f := .free "range") rfl)), (He.free_ok X G (c.fact 43 (f := .free "isinstance") rfl)), (He.free_ok X G (c.fact 50 (f := .free "sorted") rfl)), (He.free_ok X G (c.fact 38 (f := .free "all") rfl)), (He.free_ok X G (c.fact 39 (f := .free "any") rfl)), (He.free_ok X G (c.fact 46 (f := .free "max") rfl)), (He.free_ok X G (c.fact 47 (f := .free "min") rfl)), (He.free_ok X G (c.fact 52 (f := .free "sum") rfl)), (He.free_ok X G (c.fact 41 (f := .free "enumerate") rfl)), (He.free_ok X G (c.fact 54 (f := .free "zip") rfl))⟩,
    (He.int_ok X G (c.fact 61 (f := .int "MOST_CHANNEL" 30) rfl)),
    (He.int_ok X G (c.fact 62 (f := .int "MOST_ROW" 400) rfl)),
    (He.int_ok X G (c.fact 63 (f := .int "MOST_WHO" 5) rfl)),
    (He.int_ok X G (c.fact 64 (f := .int "MOST_TOGETHER" 100000) rfl)),
    (er_ok (c.fact 56 (f := .exc "CanNot") rfl) (He.glo_ok X G (c.fact 55 (f := .glo "CanNot") rfl))),
    (er_ok (c.fact 58 (f := .exc "TooMany") rfl) (He.glo_ok X G (c.fact 57 (f := .glo "TooMany") rfl))),
    (er_ok (c.fact 60 (f := .exc "Unfit") rfl) (He.glo_ok X G (c.fact 59 (f := .glo "Unfit") rfl))),
    (ecB_ok ce2 (He.glo_ok X G (c.fact 55 (f := .glo "CanNot") rfl))),
    (He.free_ok X G (c.fact 36 (f := .free "ValueError") rfl))⟩
  have b := FunD.bindsA (ps := ["script"]) X50 fun _ _ _ _ _ _ us hl => match us, hl with | [_], _ => rfl
  refine ⟨fd50, fun s v => b s [v] rfl, fun base _ _ => ?_⟩
  have h_is_number := h_is_number (P := P) (w := w) (base := base) Gg X5 (He.glo_ok X G (c.fact 0 (f := .glo "is_number") rfl)) 
  have h_is_long := h_is_long (P := P) (w := w) (base := base) Gg X8 (He.glo_ok X G (c.fact 3 (f := .glo "is_long") rfl)) 
  have h_common := h_common (P := P) (w := w) (base := base) Gg X10 (He.glo_ok X G (c.fact 5 (f := .glo "common") rfl)) 
  have h_channels_in := h_channels_in (P := P) (w := w) (base := base) Gg X16 (He.glo_ok X G (c.fact 8 (f := .glo "channels_in") rfl)) 
  have h_all_time_in := h_all_time_in (P := P) (w := w) (base := base) Gg X30 (He.glo_ok X G (c.fact 18 (f := .glo "all_time_in") rfl)) 
  have h_contrary_by := h_contrary_by (P := P) (w := w) (base := base) Gg X36 (He.glo_ok X G (c.fact 22 (f := .glo "contrary_by") rfl)) 
  have h__law_box := h__law_box (P := P) (w := w) (base := base) Gg X40 (He.glo_ok X G (c.fact 25 (f := .glo "_law_box") rfl)) 
  have h__law_take := h__law_take (P := P) (w := w) (base := base) Gg X41 (He.glo_ok X G (c.fact 26 (f := .glo "_law_take") rfl)) 
  have h__law_cells := h__law_cells (P := P) (w := w) (base := base) Gg X42 (He.glo_ok X G (c.fact 27 (f := .glo "_law_cells") rfl)) 
  have h__law_common_b := h__law_common_b (P := P) (w := w) (base := base) Gg X45 (He.glo_ok X G (c.fact 30 (f := .glo "_law_common") rfl)) 
  have h_is_within := h_is_within (P := P) (w := w) (base := base) Gg X6 (He.glo_ok X G (c.fact 1 (f := .glo "is_within") rfl)) h_is_number
  have h_together_in := h_together_in (P := P) (w := w) (base := base) Gg X17 (He.glo_ok X G (c.fact 9 (f := .glo "together_in") rfl)) h_common
  have h_round_of := h_round_of (P := P) (w := w) (base := base) Gg X28 (He.glo_ok X G (c.fact 16 (f := .glo "round_of") rfl)) h_common
  have h__law_of := h__law_of (P := P) (w := w) (base := base) Gg X43 (He.glo_ok X G (c.fact 28 (f := .glo "_law_of") rfl)) h__law_take
  have h__law_least := h__law_least (P := P) (w := w) (base := base) Gg X47 (He.glo_ok X G (c.fact 32 (f := .glo "_law_least") rfl)) h__law_common_b
  have h__law_both := h__law_both (P := P) (w := w) (base := base) Gg X48 (He.glo_ok X G (c.fact 33 (f := .glo "_law_both") rfl)) h__law_common_b
  have h_sure_within := h_sure_within (P := P) (w := w) (base := base) Gg X7 (He.glo_ok X G (c.fact 2 (f := .glo "sure_within") rfl)) h_is_within
  have h_is_row_in := h_is_row_in (P := P) (w := w) (base := base) Gg X14 (He.glo_ok X G (c.fact 6 (f := .glo "is_row_in") rfl)) h_is_within
  have h_time_in := h_time_in (P := P) (w := w) (base := base) Gg X20 (He.glo_ok X G (c.fact 11 (f := .glo "time_in") rfl)) h_together_in
  have h_sure_round := h_sure_round (P := P) (w := w) (base := base) Gg X34 (He.glo_ok X G (c.fact 21 (f := .glo "sure_round") rfl)) h_sure_within
  have h_tupled := h_tupled (P := P) (w := w) (base := base) Gg X9 (He.glo_ok X G (c.fact 4 (f := .glo "tupled") rfl)) 
  have h__law_same := h__law_same (P := P) (w := w) (base := base) Gg X44 (He.glo_ok X G (c.fact 29 (f := .glo "_law_same") rfl)) 
  have h_sure_hops := h_sure_hops (P := P) (w := w) (base := base) Gg X15 (He.glo_ok X G (c.fact 7 (f := .glo "sure_hops") rfl)) h_is_row_in h_tupled
  have h_sure_phases := h_sure_phases (P := P) (w := w) (base := base) Gg X19 (He.glo_ok X G (c.fact 10 (f := .glo "sure_phases") rfl)) h_is_long h_is_within h_tupled
  have h_sure_lot_of_rows := h_sure_lot_of_rows (P := P) (w := w) (base := base) Gg X27 (He.glo_ok X G (c.fact 15 (f := .glo "sure_lot_of_rows") rfl)) h_is_row_in h_tupled
  have h_sure_places := h_sure_places (P := P) (w := w) (base := base) Gg X29 (He.glo_ok X G (c.fact 17 (f := .glo "sure_places") rfl)) h_is_within h_tupled
  have h_rest_slot := h_rest_slot (P := P) (w := w) (base := base) Gg X37 (He.glo_ok X G (c.fact 23 (f := .glo "rest_slot") rfl)) h_common h_contrary_by h_is_long h_is_within h_sure_round h_tupled
  have h_sure_two := h_sure_two (P := P) (w := w) (base := base) Gg X21 (He.glo_ok X G (c.fact 12 (f := .glo "sure_two") rfl)) h_sure_hops
  have h_all_first := h_all_first (P := P) (w := w) (base := base) Gg X31 (He.glo_ok X G (c.fact 19 (f := .glo "all_first") rfl)) h_all_time_in h_round_of h_sure_lot_of_rows h_sure_places
  have h_all_channels := h_all_channels (P := P) (w := w) (base := base) Gg X32 (He.glo_ok X G (c.fact 20 (f := .glo "all_channels") rfl)) h_channels_in h_sure_lot_of_rows
  have h_place_slot := h_place_slot (P := P) (w := w) (base := base) Gg X38 (He.glo_ok X G (c.fact 24 (f := .glo "place_slot") rfl)) h_is_long h_is_within h_rest_slot h_sure_round h_tupled
  have h__law_heard := h__law_heard (P := P) (w := w) (base := base) Gg X46 (He.glo_ok X G (c.fact 31 (f := .glo "_law_heard") rfl)) h_rest_slot
  have h_first_meet := h_first_meet (P := P) (w := w) (base := base) Gg X22 (He.glo_ok X G (c.fact 13 (f := .glo "first_meet") rfl)) h_sure_phases h_sure_two h_time_in
  have h_meetings_many := h_meetings_many (P := P) (w := w) (base := base) Gg X23 (He.glo_ok X G (c.fact 14 (f := .glo "meetings_many") rfl)) h_sure_phases h_sure_two h_together_in
  have h__law_right := h__law_right (P := P) (w := w) (base := base) Gg X49 (He.glo_ok X G (c.fact 34 (f := .glo "_law_right") rfl)) h__law_both h__law_heard h__law_least h__law_of h__law_same h__law_take h_all_channels h_all_first h_first_meet h_meetings_many h_place_slot
  exact fn_end (ok_law Gg X50 (He.glo_ok X G (c.fact 35 (f := .glo "law") rfl)) h__law_box h__law_cells h__law_right)
end WK

set_option Elab.async false
set_option linter.all false
set_option maxRecDepth 100000
set_option maxHeartbeats 1000000
namespace WK
open PySem PySem.Spec PyProof.Rows L2 DL
/-! ### k57: three lengths come together -/
def nL (l : List Nat) : List D := l.map fun (n : Nat) => D.int n
def oN : Option Nat → D
  | none => .non
  | some n => .int n
theorem nL_iL (l : List Nat) : nL l = iL (l.map fun (n : Nat) => (n : Int)) := by simp [nL, iL]
theorem law_both_ok (a b : Nat) (h0 : 0 < a) (h1 : 0 < b) (h2 : b < 200) : U__law_both (.int a) (.int b) = .ok (.int (Nat.lcm a b : Nat)) := by
  obtain ⟨x, e1, e2⟩ := lcm_ops h0 h1 (by omega)
  unfold U__law_both
  simp [law_common_b_ok a b h2, e1, e2]
def lcmL (l : List Nat) : Nat := l.foldl Nat.lcm 1
def leastN (ls rs : List Nat) : Option Nat := (List.range (lcmL ls)).find? fun t => decide (ls.map (t % ·) = rs)
theorem map_cast_inj {a b : List Nat} : a.map (fun (n : Nat) => (n : Int)) = b.map (fun (n : Nat) => (n : Int)) ↔ a = b := by
  constructor
  · intro h
    have := congrArg (List.map Int.toNat) h
    simpa [List.map_map, Function.comp_def] using this
  · intro h; rw [h]
theorem law_least_ok (ls rs : List Nat) (h1 : ∀ n ∈ ls, 0 < n ∧ n < 200) (hl : ls.length ≤ 1000) (hM : lcmL ls ≤ 1000000) : U__law_least (.lst (nL ls)) (.lst (nL rs)) = .ok (oN (leastN ls rs)) := by
  unfold U__law_least
  simp only [seqU_lst]
  have k := foldU_ok (l := ls) (g := fun (n : Nat) => D.int n) (e := fun (n : Nat) => D.int n) (step := Nat.lcm) (t := 1) (fun n => 0 < n)
    (f := fun own s => (U__law_common_b s own).bind fun z => (o2f (fdivD s z)).bind fun z_1 => (o2f (mulD z_1 own)).bind fun most_2 => .ok most_2) (by omega) (fun n hn m hm => by
      obtain ⟨n1, n2⟩ := h1 n hn
      obtain ⟨x, e1, e2⟩ := lcm_ops hm n1 (by omega)
      exact ⟨by simp [law_common_b_ok m n n2, e1, e2], Nat.lcm_pos hm n1⟩)
  rw [show nL ls = ls.map fun (n : Nat) => D.int n from rfl, show (D.int 1) = (fun (n : Nat) => D.int n) 1 from rfl, k.1, FR.bind_ok, show ls.foldl Nat.lcm 1 = lcmL ls from rfl, rg1_nat (by omega), o2f_some, FR.bind_ok]
  rw [findU_ok (p := fun t => if decide (ls.map (t % ·) = rs) = true then some (D.int (t : Nat)) else none) (fun t ht => by
    rw [lcU_ok (h := fun (n : Nat) => D.int ((t % n : Nat) : Int)) (by omega) (fun n hn => by
      have : (0 : Int) < (n : Nat) := by have := (h1 n hn).1; omega
      simp [modD_int this]), FR.bind_ok]
    have e : ls.map (fun (n : Nat) => D.int ((t % n : Nat) : Int)) = iL ((ls.map (t % ·)).map fun (n : Nat) => (n : Int)) := by simp [iL]
    simp only [listO_lst, o2f_some, FR.bind_ok, e, nL_iL, eqD_lst, boolU_bl, map_cast_inj]
    by_cases h : ls.map (t % ·) = rs <;> simp [h])]
  rw [els_opt, findSome_if]
  unfold leastN
  cases (List.range (lcmL ls)).find? (fun t => decide (ls.map (t % ·) = rs)) <;> rfl
theorem law_heard_ok {d : D} {m n a b : Nat} (k : prish d a b) (hm : 0 < m ∧ m ≤ 400) (hn : 0 < n ∧ n ≤ 400) (ha : a < m) (hb : b < n) : U__law_heard (.int m) (.int n) d = .ok (oN (restIn m n a b)) := by
  unfold U__law_heard
  rw [un2_tup, rest_slot_spec k hm hn ha hb]
  cases restIn m n a b with
  | some y => simp [oN]
  | none => simp [oN]
/-! least -/
theorem find_congr {l : List Nat} {p q : Nat → Bool} (h : ∀ x ∈ l, p x = q x) : l.find? p = l.find? q := by
  induction l with
  | nil => rfl
  | cons a l ih =>
    rw [List.find?_cons, List.find?_cons, h a List.mem_cons_self, ih fun x hx => h x (List.mem_cons_of_mem _ hx)]
theorem least2 (m n a b : Nat) : leastN [m, n] [a, b] = restIn m n a b := by
  unfold leastN restIn lcmL
  simp only [List.foldl_cons, List.foldl_nil, Nat.lcm_one_left]
  apply find_congr
  intro t _
  simp [Bool.decide_and]
/-- the three together, from two taken together -/
theorem least3 {l0 l1 l2 r0 r1 r2 y : Nat} (hy : restIn l0 l1 r0 r1 = some y) : leastN [l0, l1, l2] [r0, r1, r2] = restIn (Nat.lcm l0 l1) l2 y r2 := by
  unfold restIn at hy
  rw [List.find?_range_eq_some] at hy
  obtain ⟨hy1, hy2, _⟩ := hy
  rw [List.mem_range] at hy2
  simp at hy1
  obtain ⟨hy1, hy3⟩ := hy1
  unfold leastN restIn lcmL
  simp only [List.foldl_cons, List.foldl_nil, Nat.lcm_one_left]
  apply find_congr
  intro t _
  rw [← Bool.decide_and, decide_eq_decide]
  simp only [List.map_cons, List.map_nil, List.cons.injEq, and_true]
  have hp : 0 < Nat.lcm l0 l1 := by omega
  constructor
  · rintro ⟨h0, h1, h2⟩
    refine ⟨?_, h2⟩
    apply crt_uniq (m := l0) (n := l1) (Nat.mod_lt _ hp) hy2
    · rw [Nat.mod_mod_of_dvd _ (Nat.dvd_lcm_left _ _), h0, hy1]
    · rw [Nat.mod_mod_of_dvd _ (Nat.dvd_lcm_right _ _), h1, hy3]
  · rintro ⟨h0, h2⟩
    refine ⟨?_, ?_, h2⟩
    · rw [← hy1, ← h0, Nat.mod_mod_of_dvd _ (Nat.dvd_lcm_left _ _)]
    · rw [← hy3, ← h0, Nat.mod_mod_of_dvd _ (Nat.dvd_lcm_right _ _)]
theorem restIn_comm (m n a b : Nat) : restIn m n a b = restIn n m b a := by
  unfold restIn
  rw [Nat.lcm_comm]
  apply find_congr
  intro t _
  rw [Bool.and_comm]
theorem leastN_perm1 (l0 l1 l2 r0 r1 r2 : Nat) : leastN [l0, l1, l2] [r0, r1, r2] = leastN [l0, l2, l1] [r0, r2, r1] := by
  unfold leastN lcmL
  simp only [List.foldl_cons, List.foldl_nil, Nat.lcm_one_left]
  rw [Nat.lcm_assoc, Nat.lcm_comm l1 l2, ← Nat.lcm_assoc]
  apply find_congr
  intro t _
  simp only [List.map_cons, List.map_nil, List.cons.injEq, and_true, decide_eq_decide]
  constructor <;> rintro ⟨a, b, c⟩ <;> exact ⟨a, c, b⟩
theorem leastN_perm2 (l0 l1 l2 r0 r1 r2 : Nat) : leastN [l0, l1, l2] [r0, r1, r2] = leastN [l1, l2, l0] [r1, r2, r0] := by
  unfold leastN lcmL
  simp only [List.foldl_cons, List.foldl_nil, Nat.lcm_one_left]
  rw [Nat.lcm_assoc, Nat.lcm_comm l0]
  apply find_congr
  intro t _
  simp only [List.map_cons, List.map_nil, List.cons.injEq, and_true, decide_eq_decide]
  constructor
  · rintro ⟨a, b, c⟩; exact ⟨b, c, a⟩
  · rintro ⟨a, b, c⟩; exact ⟨c, a, b⟩
theorem restIn_isSome {m n a b : Nat} (hm : 0 < m) (hn : 0 < n) (ha : a < m) (hb : b < n) : (restIn m n a b).isSome = true ↔ restsMeet m n a b := by
  constructor
  · intro h
    by_cases hd : restsMeet m n a b
    · exact hd
    · rw [restIn_none hd] at h; cases h
  · intro hd
    have hg : 0 < Nat.gcd m n := Nat.gcd_pos_of_pos_left _ hm
    have hn' : 0 < n / Nat.gcd m n := Nat.div_pos (Nat.gcd_le_right _ hn) hg
    obtain ⟨x, _, hx⟩ := NT.inv_exists (a := m / Nat.gcd m n) hn' (Nat.coprime_div_gcd_div_gcd hg)
    obtain ⟨y, _, h1, h2, h3⟩ := crt_form hm hn ha hb hd hx
    rw [restIn_some h1 h2 h3]; rfl
theorem dist12 : ∀ a, a < 13 → ∀ b, b < 13 → ∀ c, c < 13 → Nat.gcd (Nat.lcm a b) c ∣ Nat.lcm (Nat.gcd a c) (Nat.gcd b c) := by decide +kernel
/-- three rests come together exactly if each two do -/
theorem three_iff {l0 l1 l2 r0 r1 r2 : Nat} (h0 : 0 < l0 ∧ l0 ≤ 12) (h1 : 0 < l1 ∧ l1 ≤ 12) (h2 : 0 < l2 ∧ l2 ≤ 12) (k0 : r0 < l0) (k1 : r1 < l1) (k2 : r2 < l2) :
    (leastN [l0, l1, l2] [r0, r1, r2]).isSome = ((restIn l0 l1 r0 r1).isSome && (restIn l0 l2 r0 r2).isSome && (restIn l1 l2 r1 r2).isSome) := by
  cases hy : restIn l0 l1 r0 r1 with
  | none =>
    rw [Option.isSome_none, Bool.false_and, Bool.false_and]
    cases hz : leastN [l0, l1, l2] [r0, r1, r2] with
    | none => rfl
    | some t =>
      unfold leastN at hz
      have := List.find?_some hz
      simp at this
      have hd := restsMeet_of this.1 this.2.1
      have := (restIn_isSome h0.1 h1.1 k0 k1).mpr hd
      rw [hy] at this; cases this
  | some y =>
    rw [least3 hy, Option.isSome_some, Bool.true_and]
    unfold restIn at hy
    rw [List.find?_range_eq_some] at hy
    obtain ⟨hy1, hy2, _⟩ := hy
    rw [List.mem_range] at hy2
    simp at hy1
    obtain ⟨e0, e1⟩ := hy1
    rw [Bool.eq_iff_iff, Bool.and_eq_true, restIn_isSome (by omega) h2.1 hy2 k2, restIn_isSome h0.1 h2.1 k0 k2, restIn_isSome h1.1 h2.1 k1 k2]
    unfold restsMeet
    have d0 : (l0 : Int) ∣ (y : Int) - r0 := by rw [← e0, Int.natCast_emod]; exact Int.dvd_self_sub_emod
    have d1 : (l1 : Int) ∣ (y : Int) - r1 := by rw [← e1, Int.natCast_emod]; exact Int.dvd_self_sub_emod
    have g0 : ((Nat.gcd l0 l2 : Nat) : Int) ∣ (y : Int) - r0 := Int.dvd_trans (Int.natCast_dvd_natCast.mpr (Nat.gcd_dvd_left _ _)) d0
    have g1 : ((Nat.gcd l1 l2 : Nat) : Int) ∣ (y : Int) - r1 := Int.dvd_trans (Int.natCast_dvd_natCast.mpr (Nat.gcd_dvd_left _ _)) d1
    constructor
    · intro h
      have h := Int.dvd_of_emod_eq_zero h
      constructor
      · apply Int.emod_eq_zero_of_dvd
        have : ((Nat.gcd l0 l2 : Nat) : Int) ∣ (r2 : Int) - y := Int.dvd_trans (Int.natCast_dvd_natCast.mpr (Nat.gcd_dvd_gcd_of_dvd_left _ (Nat.dvd_lcm_left _ _))) h
        have := Int.dvd_add this g0
        rwa [show (r2 : Int) - y + (y - r0) = r2 - r0 by omega] at this
      · apply Int.emod_eq_zero_of_dvd
        have : ((Nat.gcd l1 l2 : Nat) : Int) ∣ (r2 : Int) - y := Int.dvd_trans (Int.natCast_dvd_natCast.mpr (Nat.gcd_dvd_gcd_of_dvd_left _ (Nat.dvd_lcm_right _ _))) h
        have := Int.dvd_add this g1
        rwa [show (r2 : Int) - y + (y - r1) = r2 - r1 by omega] at this
    · rintro ⟨ha, hb⟩
      have ha := Int.dvd_sub (Int.dvd_of_emod_eq_zero ha) g0
      have hb := Int.dvd_sub (Int.dvd_of_emod_eq_zero hb) g1
      rw [show (r2 : Int) - r0 - (y - r0) = r2 - y by omega] at ha
      rw [show (r2 : Int) - r1 - (y - r1) = r2 - y by omega] at hb
      apply Int.emod_eq_zero_of_dvd
      have : ((Nat.lcm (Nat.gcd l0 l2) (Nat.gcd l1 l2) : Nat) : Int) ∣ (r2 : Int) - y := by
        rw [← Int.natAbs_dvd_natAbs] at ha hb ⊢
        exact Nat.lcm_dvd ha hb
      exact Int.dvd_trans (Int.natCast_dvd_natCast.mpr (dist12 l0 (by omega) l1 (by omega) l2 (by omega))) this
end WK

set_option Elab.async false
set_option linter.all false
set_option maxRecDepth 100000
set_option maxHeartbeats 1000000
namespace WK
open PySem PySem.Spec PyProof.Rows L2 DL
/-- channel 1 at place r alone, 2 + n else -/
def rowN (n l r : Nat) : List Int := (List.range l).map fun k => if k = r then 1 else 2 + (n : Int)
theorem rowN_len (n l r : Nat) : (rowN n l r).length = l := by simp [rowN]
theorem rowN_VR {n l r : Nat} (hl : 0 < l ∧ l ≤ 12) (hn : n ≤ 2) : VR (rowN n l r) := by
  refine ⟨by rw [rowN_len]; exact hl.1, by rw [rowN_len]; omega, fun x hx => ?_⟩
  obtain ⟨k, _, rfl⟩ := List.mem_map.mp hx
  split <;> omega
theorem atR_rowN {n l r : Nat} (hl : 0 < l) (x : Int) : atR (rowN n l r) x = if x % (l : Int) = r then 1 else 2 + (n : Int) := by
  unfold atR
  rw [rowN_len]
  have h0 := Int.emod_nonneg x (show (l : Int) ≠ 0 by omega)
  have h1 := Int.emod_lt_of_pos x (show (0 : Int) < l by omega)
  unfold rowN
  have hk : (x % (l : Int)).toNat < l := by omega
  simp only [List.getD, List.getElem?_map, List.getElem?_range hk, Option.map_some, Option.getD_some]
  have : ((x % (l : Int)).toNat = r) ↔ (x % (l : Int) = r) := by omega
  simp only [this]
theorem mod_shift {p k r l : Int} (hl : 0 < l) (h0 : 0 ≤ r) (h1 : r < l) : (p + k) % l = r ↔ k % l = (r - p) % l := by
  rw [Int.emod_eq_emod_iff_emod_sub_eq_zero, show k - (r - p) = p + k - r by omega, ← Int.emod_eq_emod_iff_emod_sub_eq_zero, Int.emod_eq_of_lt h0 h1]
/-- later: the rest that a phase leaves -/
structure Lt (l r p q : Nat) : Prop where
  l0 : 0 < l
  l1 : l ≤ 12
  r1 : r < l
  p1 : p < l
  q1 : q < l
  eq : (q : Int) = ((r : Int) - p) % l
theorem Lt.at {l r p q : Nat} (h : Lt l r p q) (n k : Nat) : atR (rowN n l r) ((p : Int) + k) = if k % l = q then 1 else 2 + (n : Int) := by
  have l0 := h.l0
  have r1 := h.r1
  rw [atR_rowN h.l0]
  have : (((p : Int) + k) % (l : Int) = r) ↔ (k % l = q) := by
    rw [mod_shift (by omega) (by omega) (by omega), ← h.eq]
    constructor
    · intro e; exact_mod_cast e
    · intro e; exact_mod_cast e
  simp only [this]
theorem Lt.ph {l r p q : Nat} (h : Lt l r p q) (n : Nat) : inPh (rowN n l r) p := ⟨by omega, by rw [rowN_len]; have := h.p1; omega⟩
theorem Lt.vr {l r p q : Nat} (h : Lt l r p q) {n : Nat} (hn : n ≤ 2) : VR (rowN n l r) := rowN_VR ⟨h.l0, h.l1⟩ hn
theorem lcm12 {a b : Nat} (ha : 0 < a ∧ a ≤ 12) (hb : 0 < b ∧ b ≤ 12) : Nat.lcm a b ≤ 144 := by
  have := Nat.lcm_le_mul ha.1 hb.1
  have : a * b ≤ 12 * 12 := Nat.mul_le_mul ha.2 hb.2
  omega
theorem countP_one (y : Nat) : ∀ n : Nat, (List.range n).countP (fun k => decide (k = y)) = if y < n then 1 else 0
  | 0 => by simp
  | n + 1 => by
    rw [List.range_succ, List.countP_append, countP_one y n, List.countP_singleton]
    by_cases h : n = y
    · subst h; simp
    · by_cases h2 : y < n
      · simp [h, h2]; omega
      · have : ¬ y < n + 1 := by omega
        simp [h, h2, this]
theorem restIn_count (m n a b : Nat) : (List.range (Nat.lcm m n)).countP (fun t => decide (t % m = a) && decide (t % n = b)) = if (restIn m n a b).isSome then 1 else 0 := by
  cases h : restIn m n a b with
  | none =>
    unfold restIn at h
    rw [List.find?_eq_none] at h
    rw [List.countP_eq_zero.mpr h]; rfl
  | some y =>
    unfold restIn at h
    rw [List.find?_range_eq_some] at h
    obtain ⟨h1, h2, _⟩ := h
    rw [List.mem_range] at h2
    simp at h1
    rw [List.countP_congr (q := fun k => decide (k = y)) (fun t ht => by
      rw [List.mem_range] at ht
      simp only [Bool.and_eq_true, decide_eq_true_eq]
      constructor
      · rintro ⟨e1, e2⟩
        exact crt_uniq ht h2 (e1.trans h1.1.symm) (e2.trans h1.2.symm)
      · rintro rfl; exact h1), countP_one, if_pos h2]
    rfl
def li3 (a b c : Nat) : D := .lst [.int a, .int b, .int c]
theorem cut2 (a b c : D) : DL.cutD [a, b, c] none (some 2) = [a, b] := cut_take [a, b, c] 2
theorem cut1 (a b c : D) : DL.cutD [a, b, c] (some 1) none = [b, c] := cut_drop [a, b, c] 1
theorem least2_ok {l0 l1 q0 q1 : Nat} (h0 : 0 < l0 ∧ l0 ≤ 12) (h1 : 0 < l1 ∧ l1 ≤ 12) : U__law_least (.lst [.int l0, .int l1]) (.lst [.int q0, .int q1]) = .ok (oN (restIn l0 l1 q0 q1)) := by
  have := law_least_ok [l0, l1] [q0, q1] (by simp; omega) (by simp) (by
    unfold lcmL; simp only [List.foldl_cons, List.foldl_nil, Nat.lcm_one_left]
    have := lcm12 h0 h1; omega)
  rw [least2] at this
  exact this
theorem same_int (a : Int) : U__law_same (.int a) (.int a) = .ok (.bl true) := same_ok trivial
theorem meets01 {l0 l1 r0 r1 p0 p1 q0 q1 : Nat} (h0 : Lt l0 r0 p0 q0) (h1 : Lt l1 r1 p1 q1) (k : Nat) : meets (rowN 0 l0 r0) (rowN 1 l1 r1) p0 p1 none k = (decide (k % l0 = q0) && decide (k % l1 = q1)) := by
  unfold meets
  rw [h0.at, h1.at]
  by_cases e0 : k % l0 = q0 <;> by_cases e1 : k % l1 = q1 <;> simp [e0, e1]
theorem right7 {t : List D} {l0 l1 l2 r0 r1 p0 p1 p2 q0 q1 q2 : Nat} (h0 : Lt l0 r0 p0 q0) (h1 : Lt l1 r1 p1 q1) {R2 : D} :
    U__law_right_7 t (li3 l0 l1 l2) (.lst [row (rowN 0 l0 r0), row (rowN 1 l1 r1), R2]) (li3 p0 p1 p2) (li3 q0 q1 q2) = .ok (.bl true, t) := by
  have e : meetsMany (rowN 0 l0 r0) (rowN 1 l1 r1) p0 p1 = if (restIn l0 l1 q0 q1).isSome then 1 else 0 := by
    unfold meetsMany together
    rw [rowN_len, rowN_len, ← restIn_count]
    apply List.countP_congr
    intro k _
    rw [meets01 h0 h1]
  unfold U__law_right_7 li3
  simp only [intU_int, slD_lst, cut2, o2f_some, FR.bind_ok, least2_ok ⟨h0.l0, h0.l1⟩ ⟨h1.l0, h1.l1⟩, idxD_lst, atI_0, atI_1]
  have m := meetings_many_ok (h0.vr (n := 0) (by omega)).ish (h1.vr (n := 1) (by omega)).ish (prish.of p0 p1) (h0.vr (n := 0) (by omega)) (h1.vr (n := 1) (by omega)) (h0.ph 0) (h1.ph 1)
  unfold pr at m
  rw [m, FR.bind_ok, e]
  cases restIn l0 l1 q0 q1 with
  | none => simp [oN, same_int]
  | some y => simp [oN, same_int]
end WK

set_option Elab.async false
set_option linter.all false
set_option maxRecDepth 100000
set_option maxHeartbeats 1000000
namespace WK
open PySem PySem.Spec PyProof.Rows L2 DL
theorem leastN3_some {l0 l1 l2 q0 q1 q2 t : Nat} (h : leastN [l0, l1, l2] [q0, q1, q2] = some t) : t % l0 = q0 ∧ t % l1 = q1 ∧ t % l2 = q2 := by
  unfold leastN at h
  have := List.find?_some h
  simpa using this
theorem right6 {t : List D} {l0 l1 l2 r0 r1 r2 p0 p1 p2 q0 q1 q2 : Nat} (h0 : Lt l0 r0 p0 q0) (h1 : Lt l1 r1 p1 q1) (h2 : Lt l2 r2 p2 q2) {R2 : D} :
    U__law_right_6 t (li3 l0 l1 l2) (li3 r0 r1 r2) (oN (leastN [l0, l1, l2] [q0, q1, q2])) (.lst [row (rowN 0 l0 r0), row (rowN 1 l1 r1), R2]) (li3 p0 p1 p2) (li3 q0 q1 q2) = .ok (.bl true, t) := by
  have h7 := right7 (t := t) (l2 := l2) (p2 := p2) (q2 := q2) h0 h1 (R2 := R2)
  unfold U__law_right_6
  rw [h7]
  cases h : leastN [l0, l1, l2] [q0, q1, q2] with
  | none => simp [oN]
  | some y =>
    obtain ⟨y0, y1, y2⟩ := leastN3_some h
    have b1 := h1.l0; have b2 := h1.l1; have c1 := h2.l0; have c2 := h2.l1
    have a1 := h1.p1; have a2 := h1.r1; have d1 := h2.p1; have d2 := h2.r1
    have hp : 0 < Nat.lcm l1 l2 := Nat.lcm_pos b1 c1
    have hr : restIn l1 l2 q1 q2 = some (y % Nat.lcm l1 l2) := restIn_some (Nat.mod_lt _ hp) (by rw [Nat.mod_mod_of_dvd _ (Nat.dvd_lcm_left _ _), y1]) (by rw [Nat.mod_mod_of_dvd _ (Nat.dvd_lcm_right _ _), y2])
    have ps := place_slot_ok (prish.of p1 p2) (prish.of r1 r2) (m := l1) (n := l2) (q0 := q1) (q1 := q2) ⟨b1, by omega⟩ ⟨c1, by omega⟩ (by omega) (by omega) (by omega) (by omega) h1.eq h2.eq
    rw [rest_slot_spec (prish.of _ _) ⟨b1, by omega⟩ ⟨c1, by omega⟩ h1.q1 h2.q1, hr] at ps
    unfold pr at ps
    have hp' : (0 : Int) < (Nat.lcm l1 l2 : Nat) := by omega
    unfold li3
    simp only [oN, notN_int, o2f_some, FR.bind_ok, boolU_bl, cond_true, idxD_lst, atI_0, atI_1, atI_2, ps, intU_int, slD_lst, cut1, least2_ok ⟨b1, b2⟩ ⟨c1, c2⟩, hr, same_int, Bool.not_true, cond_false, law_both_ok l1 l2 b1 c1 (by omega), modD_int hp', neD_int, Int.natCast_emod, decide_true, li3]
/-- three draws below -/
theorem draws3 {t : List D} {k l0 l1 l2 : Nat} (h0 : 0 < l0 ∧ l0 ≤ 12) (h1 : 0 < l1 ∧ l1 ≤ 12) (h2 : 0 < l2 ∧ l2 ≤ 12) (ht : OkT t (k + 3)) :
    ∃ (p0 p1 p2 : Nat) (t' : List D), lcT (fun own t_1 => (U__law_take t_1 own).bindN fun r => .ok (r.1, r.2)) [.int l0, .int l1, .int l2] t = .ok ([.int p0, .int p1, .int p2], t') ∧ p0 < l0 ∧ p1 < l1 ∧ p2 < l2 ∧ OkT t' k := by
  obtain ⟨x0, t0, e0, a0, b0, g0⟩ := take_ok (b := l0) ht (by omega) (by omega)
  obtain ⟨x1, t1, e1, a1, b1, g1⟩ := take_ok (b := l1) g0 (by omega) (by omega)
  obtain ⟨x2, t2, e2, a2, b2, g2⟩ := take_ok (b := l2) g1 (by omega) (by omega)
  obtain ⟨n0, rfl⟩ := Int.eq_ofNat_of_zero_le a0
  obtain ⟨n1, rfl⟩ := Int.eq_ofNat_of_zero_le a1
  obtain ⟨n2, rfl⟩ := Int.eq_ofNat_of_zero_le a2
  refine ⟨n0, n1, n2, t2, ?_, by omega, by omega, by omega, g2⟩
  simp [lcT, mapT, e0, e1, e2]
theorem rg3' : rg1 [.int 3] = some [.int 0, .int 1, .int 2] := by
  have := rg1_nat (n := 3) (by omega)
  exact this
theorem round3 {l0 l1 l2 : Nat} (h0 : 0 < l0 ∧ l0 ≤ 12) (h1 : 0 < l1 ∧ l1 ≤ 12) (h2 : 0 < l2 ∧ l2 ≤ 12) : lcmL [l0, l1, l2] ≤ 1728 := by
  unfold lcmL; simp only [List.foldl_cons, List.foldl_nil, Nat.lcm_one_left]
  have hp : 0 < Nat.lcm l0 l1 := Nat.lcm_pos h0.1 h1.1
  have h := lcm12 h0 h1
  have := Nat.lcm_le_mul hp h2.1
  have : Nat.lcm l0 l1 * l2 ≤ 144 * 12 := Nat.mul_le_mul h h2.2
  omega
theorem least3_ok {l0 l1 l2 q0 q1 q2 : Nat} (h0 : 0 < l0 ∧ l0 ≤ 12) (h1 : 0 < l1 ∧ l1 ≤ 12) (h2 : 0 < l2 ∧ l2 ≤ 12) : U__law_least (li3 l0 l1 l2) (li3 q0 q1 q2) = .ok (oN (leastN [l0, l1, l2] [q0, q1, q2])) :=
  law_least_ok [l0, l1, l2] [q0, q1, q2] (by simp; omega) (by simp) (by have := round3 h0 h1 h2; omega)
/-- all three there -/
theorem all3 {l0 l1 l2 r0 r1 r2 p0 p1 p2 q0 q1 q2 : Nat} (h0 : Lt l0 r0 p0 q0) (h1 : Lt l1 r1 p1 q1) (h2 : Lt l2 r2 p2 q2) : allIn [rowN 0 l0 r0, rowN 1 l1 r1, rowN 2 l2 r2] [(p0 : Int), p1, p2] = (leastN [l0, l1, l2] [q0, q1, q2]).map (fun (k : Nat) => (k : Int) + 1) := by
  unfold allIn roundOf leastN lcmL
  simp only [List.map_cons, List.map_nil, rowN_len]
  congr 1
  apply find_congr
  intro k _
  unfold allMeet
  simp only [List.zip_cons_cons, List.zip_nil_right, List.all_cons, List.all_nil, h0.at, h1.at, h2.at, List.cons.injEq, and_true]
  by_cases e0 : k % l0 = q0 <;> by_cases e1 : k % l1 = q1 <;> by_cases e2 : k % l2 = q2 <;> simp [e0, e1, e2]
theorem all_first3 {d e : D} {l0 l1 l2 r0 r1 r2 p0 p1 p2 q0 q1 q2 : Nat} (h0 : Lt l0 r0 p0 q0) (h1 : Lt l1 r1 p1 q1) (h2 : Lt l2 r2 p2 q2) (k : rowsish d [rowN 0 l0 r0, rowN 1 l1 r1, rowN 2 l2 r2]) (k' : rowish e [(p0 : Int), p1, p2]) :
    U_all_first d e = .ok (oI ((leastN [l0, l1, l2] [q0, q1, q2]).map fun (k : Nat) => (k : Int) + 1)) := by
  rw [← all3 h0 h1 h2]
  apply all_first_ok k k' (by simp) (by simp)
  · intro r hr
    simp only [List.mem_cons, List.not_mem_nil, or_false] at hr
    rcases hr with rfl | rfl | rfl
    · exact h0.vr (by omega)
    · exact h1.vr (by omega)
    · exact h2.vr (by omega)
  · simp
  · intro p hp
    simp only [List.zip_cons_cons, List.zip_nil_right, List.mem_cons, List.not_mem_nil, or_false] at hp
    rcases hp with rfl | rfl | rfl
    · exact h0.ph 0
    · exact h1.ph 1
    · exact h2.ph 2
  · have := round3 ⟨h0.l0, h0.l1⟩ ⟨h1.l0, h1.l1⟩ ⟨h2.l0, h2.l1⟩
    unfold roundOf; simp only [List.map_cons, List.map_nil, rowN_len]
    unfold lcmL at this; omega
theorem right5 {t : List D} {k l0 l1 l2 r0 r1 r2 : Nat} (h0 : 0 < l0 ∧ l0 ≤ 12) (h1 : 0 < l1 ∧ l1 ≤ 12) (h2 : 0 < l2 ∧ l2 ≤ 12) (k0 : r0 < l0) (k1 : r1 < l1) (k2 : r2 < l2) (ht : OkT t (k + 3)) :
    ∃ t', U__law_right_5 t (li3 l0 l1 l2) (li3 r0 r1 r2) (.lst [row (rowN 0 l0 r0), row (rowN 1 l1 r1), row (rowN 2 l2 r2)]) = .ok (.bl true, t') ∧ OkT t' k := by
  obtain ⟨p0, p1, p2, t', e, a0, a1, a2, g⟩ := draws3 h0 h1 h2 ht
  refine ⟨t', ?_, g⟩
  have mk : ∀ {l r p : Nat}, 0 < l ∧ l ≤ 12 → r < l → p < l → ∃ q : Nat, Lt l r p q := fun {l r p} hl hr hp => by
    have x0 := Int.emod_nonneg ((r : Int) - p) (show (l : Int) ≠ 0 by omega)
    have x1 := Int.emod_lt_of_pos ((r : Int) - p) (show (0 : Int) < l by omega)
    exact ⟨(((r : Int) - p) % l).toNat, hl.1, hl.2, hr, hp, by omega, by omega⟩
  obtain ⟨q0, L0⟩ := mk h0 k0 a0
  obtain ⟨q1, L1⟩ := mk h1 k1 a1
  obtain ⟨q2, L2⟩ := mk h2 k2 a2
  have m0 : (0 : Int) < l0 := by omega
  have m1 : (0 : Int) < l1 := by omega
  have m2 : (0 : Int) < l2 := by omega
  have h6 := right6 (t := t') L0 L1 L2 (R2 := row (rowN 2 l2 r2))
  have af := all_first3 (d := .lst [row (rowN 0 l0 r0), row (rowN 1 l1 r1), row (rowN 2 l2 r2)]) (e := .lst [.int p0, .int p1, .int p2]) L0 L1 L2 (by
      refine rowsish.lst (by simp) ⟨by simp, fun x hx => ?_⟩
      simp only [List.mem_cons, List.not_mem_nil, or_false] at hx
      rcases hx with rfl | rfl | rfl <;> exact fitT_row (by rw [rowN_len]; omega)) (rowish.lst (r := [(p0 : Int), p1, p2]) (by simp))
  have ls := least3_ok (q0 := q0) (q1 := q1) (q2 := q2) h0 h1 h2
  unfold li3 at *
  unfold U__law_right_5
  rw [seqU_lst, e, FR.bind_ok, rg3', o2f_some, FR.bind_ok]
  have lt : lcU (fun k_ => (o2f (idxD (.lst [.int r0, .int r1, .int r2]) k_)).bind fun z => (o2f (idxD (D.lst [.int p0, .int p1, .int p2]) k_)).bind fun z_1 => (o2f (subD z z_1)).bind fun z_2 => (o2f (idxD (.lst [.int l0, .int l1, .int l2]) k_)).bind fun z_3 => (o2f (modD z_2 z_3)).bind fun z_4 => .ok z_4) [.int 0, .int 1, .int 2] = .ok [.int q0, .int q1, .int q2] := by
    simp [lcU, mapU, modD_int m0, modD_int m1, modD_int m2, L0.eq, L1.eq, L2.eq]
  rw [lt, FR.bind_ok, ls, FR.bind_ok, af, FR.bind_ok, h6]
  cases leastN [l0, l1, l2] [q0, q1, q2] with
  | none => simp [oN, same_ok (show fitS 10 .non from trivial)]
  | some y => simp [oN, same_int]
end WK

set_option Elab.async false
set_option linter.all false
set_option maxRecDepth 100000
set_option maxHeartbeats 1000000
namespace WK
open PySem PySem.Spec PyProof.Rows L2 DL
theorem mem_rowN {n l r : Nat} (hr : r < l) (c : Int) : c ∈ rowN n l r → c = 1 ∨ c = 2 + (n : Int) := by
  intro h
  obtain ⟨k, _, rfl⟩ := List.mem_map.mp h
  split
  · exact .inl rfl
  · exact .inr rfl
theorem one_mem_rowN {n l r : Nat} (hr : r < l) : (1 : Int) ∈ rowN n l r := List.mem_map.mpr ⟨r, List.mem_range.mpr hr, by simp⟩
theorem rows3 {l0 l1 l2 r0 r1 r2 : Nat} (h0 : l0 ≤ 12) (h1 : l1 ≤ 12) (h2 : l2 ≤ 12) {d : D} (hd : d = .lst [row (rowN 0 l0 r0), row (rowN 1 l1 r1), row (rowN 2 l2 r2)] ∨ d = .tup [row (rowN 0 l0 r0), row (rowN 1 l1 r1), row (rowN 2 l2 r2)]) : rowsish d [rowN 0 l0 r0, rowN 1 l1 r1, rowN 2 l2 r2] := by
  have hf : ∀ x ∈ [row (rowN 0 l0 r0), row (rowN 1 l1 r1), row (rowN 2 l2 r2)], fitT 9 x := fun x hx => by
    simp only [List.mem_cons, List.not_mem_nil, or_false] at hx
    rcases hx with rfl | rfl | rfl <;> exact fitT_row (by rw [rowN_len]; omega)
  rcases hd with rfl | rfl
  · exact rowsish.lst (by simp) ⟨by simp, hf⟩
  · exact rowsish.tup (by simp) ⟨by simp, hf⟩
theorem rowN_build (n l r : Nat) (hl : 0 < l ∧ l ≤ 12) (hn : n ≤ 2) {d1 d2 d3 : D} : (o2f (rg1 [.int l])).bind (fun l_1 => (lcU (fun k_ => (o2f (eqD k_ (.int r))).bind fun z_3 => boolU z_3 fun b => FR.bind (bif b then .ok (D.int 1) else (o2f (addD (D.int 2) (.int n))).bind fun z_4 => .ok z_4) fun z_5 => .ok z_5) l_1).bind fun z_1 => (o2f (tupD [(D.lst z_1)])).bind fun z_6 => FR.ok z_6) = .ok (row (rowN n l r)) := by
  rw [rg1_nat (by omega), o2f_some, FR.bind_ok, lcU_ok (h := fun (k : Nat) => D.int (if k = r then 1 else 2 + (n : Int))) (by rw [List.length_range]; omega) (fun k hk => by
    simp only [eqD_int, o2f_some, FR.bind_ok, boolU_bl]
    by_cases h : k = r
    · subst h; simp
    · have : ¬ (k : Int) = r := by omega
      simp [h, this])]
  simp only [FR.bind_ok, tupD_lst, o2f_some]
  unfold row iL rowN
  rw [List.map_map]; rfl
theorem right4 {t : List D} {k l0 l1 l2 r0 r1 r2 : Nat} (h0 : 0 < l0 ∧ l0 ≤ 12) (h1 : 0 < l1 ∧ l1 ≤ 12) (h2 : 0 < l2 ∧ l2 ≤ 12) (k0 : r0 < l0) (k1 : r1 < l1) (k2 : r2 < l2) (ht : OkT t (k + 3)) {b c : D} :
    ∃ t', U__law_right_4 t (li3 l0 l1 l2) (li3 r0 r1 r2) (oN (leastN [l0, l1, l2] [r0, r1, r2])) (.lst [oN (restIn l0 l1 r0 r1), b, c]) = .ok (.bl true, t') ∧ OkT t' k := by
  obtain ⟨t', e5, g⟩ := right5 h0 h1 h2 k0 k1 k2 ht
  refine ⟨t', ?_, g⟩
  have z : ∀ {l r : Nat}, 0 < l ∧ l ≤ 12 → r < l → Lt l r 0 r := fun {l r} hl hr => ⟨hl.1, hl.2, hr, hl.1, hr, by rw [Int.emod_eq_of_lt (by omega) (by omega)]; omega⟩
  have L0 := z h0 k0
  have L1 := z h1 k1
  have L2 := z h2 k2
  have af := all_first3 (d := .tup [row (rowN 0 l0 r0), row (rowN 1 l1 r1), row (rowN 2 l2 r2)]) (e := .tup [.int 0, .int 0, .int 0]) L0 L1 L2 (rows3 h0.2 h1.2 h2.2 (.inr rfl)) (rowish.of (r := [((0 : Nat) : Int), ((0 : Nat) : Int), ((0 : Nat) : Int)]) (by simp))
  have ac := all_channels_ok (rows3 (r0 := r0) (r1 := r1) (r2 := r2) h0.2 h1.2 h2.2 (.inl rfl)) (by simp) (by simp) (fun q hq => by
    simp only [List.mem_cons, List.not_mem_nil, or_false] at hq
    rcases hq with rfl | rfl | rfl
    · exact L0.vr (by omega)
    · exact L1.vr (by omega)
    · exact L2.vr (by omega)) (by rw [rowN_len]; omega)
  have one : (ssI (rowN 0 l0 r0)).filter (fun c => [rowN 0 l0 r0, rowN 1 l1 r1, rowN 2 l2 r2].all fun q => decide (c ∈ q)) = [1] := by
    apply up_ext ((ssI_up _).filter _) (by simp)
    intro x
    rw [List.mem_filter, ssI_mem]
    simp only [List.all_cons, List.all_nil, Bool.and_eq_true, decide_eq_true_eq, List.mem_singleton, and_true]
    constructor
    · rintro ⟨a, _, b, c⟩
      have := mem_rowN k0 x a
      have := mem_rowN k1 x b
      omega
    · rintro rfl
      exact ⟨one_mem_rowN k0, one_mem_rowN k0, one_mem_rowN k1, one_mem_rowN k2⟩
  rw [one] at ac
  have fm := first_meet_ok (L0.vr (n := 0) (by omega)).ish (L1.vr (n := 1) (by omega)).ish (prish.of ((0 : Nat) : Int) ((0 : Nat) : Int)) (L0.vr (n := 0) (by omega)) (L1.vr (n := 1) (by omega)) (L0.ph 0) (L1.ph 1)
  have ft : timeIn (rowN 0 l0 r0) (rowN 1 l1 r1) ((0 : Nat) : Int) ((0 : Nat) : Int) none = (restIn l0 l1 r0 r1).map fun (k : Nat) => (k : Int) + 1 := by
    unfold timeIn slotIn together restIn
    rw [rowN_len, rowN_len]
    congr 1
    apply find_congr
    intro k _
    exact meets01 L0 L1 k
  rw [ft] at fm
  unfold pr at fm
  unfold U__law_right_4
  have rows : lcU (fun n => (o2f (idxD (li3 l0 l1 l2) n)).bind fun z => (o2f (rg1 [z])).bind fun l_1 => (lcU (fun k_ => (o2f (idxD (li3 r0 r1 r2) n)).bind fun z_2 => (o2f (eqD k_ z_2)).bind fun z_3 => boolU z_3 fun b => FR.bind (bif b then .ok (D.int 1) else (o2f (addD (D.int 2) n)).bind fun z_4 => .ok z_4) fun z_5 => .ok z_5) l_1).bind fun z_1 => (o2f (tupD [(D.lst z_1)])).bind fun z_6 => .ok z_6) [.int 0, .int 1, .int 2] = .ok [row (rowN 0 l0 r0), row (rowN 1 l1 r1), row (rowN 2 l2 r2)] := by
    have b0 := rowN_build 0 l0 r0 h0 (by omega) (d1 := .non) (d2 := .non) (d3 := .non)
    have b1 := rowN_build 1 l1 r1 h1 (by omega) (d1 := .non) (d2 := .non) (d3 := .non)
    have b2 := rowN_build 2 l2 r2 h2 (by omega) (d1 := .non) (d2 := .non) (d3 := .non)
    unfold li3
    apply lcU_lit3
    · simp only [idxD_lst, atI_0, o2f_some, FR.bind_ok]; exact b0
    · simp only [idxD_lst, atI_1, o2f_some, FR.bind_ok]; exact b1
    · simp only [idxD_lst, atI_2, o2f_some, FR.bind_ok]; exact b2
  rw [rg3', o2f_some, FR.bind_ok, rows, FR.bind_ok, tupD_lst, o2f_some, FR.bind_ok, af, FR.bind_ok, ac, FR.bind_ok]
  simp only [idxD_lst, atI_0, atI_1, o2f_some, FR.bind_ok]
  rw [show (D.tup [.int 0, .int 0]) = .tup [.int ((0 : Nat) : Int), .int ((0 : Nat) : Int)] from rfl, fm, FR.bind_ok, e5]
  have sm : ∀ a b : Option Nat, U__law_same (.lst [oI (a.map fun (k : Nat) => (k : Int) + 1), row [1], oI (b.map fun (k : Nat) => (k : Int) + 1)]) (.lst [oI (a.map fun (k : Nat) => (k : Int) + 1), .tup [.int 1], oI (b.map fun (k : Nat) => (k : Int) + 1)]) = .ok (.bl true) := fun a b => by
    apply same_ok
    refine ⟨by simp, fun x hx => ?_⟩
    simp only [List.mem_cons, List.not_mem_nil, or_false] at hx
    rcases hx with rfl | rfl | rfl
    · exact fitS_oI _ _
    · exact fitS_row (r := [1]) (by simp)
    · exact fitS_oI _ _
  have := sm (leastN [l0, l1, l2] [r0, r1, r2]) (restIn l0 l1 r0 r1)
  cases h3 : leastN [l0, l1, l2] [r0, r1, r2] <;> cases h4 : restIn l0 l1 r0 r1 <;> (rw [h3, h4] at this; simp [oN] at this ⊢; rw [this]; rfl)
end WK

set_option Elab.async false
set_option linter.all false
set_option maxRecDepth 100000
set_option maxHeartbeats 1000000
namespace WK
open PySem PySem.Spec PyProof.Rows L2 DL
theorem oN_some (n : Nat) : oN (some n) = .int n := rfl
theorem oN_none : oN none = .non := rfl
theorem fitS_oN (n : Nat) (o : Option Nat) : fitS (n + 1) (oN o) := by cases o <;> trivial
theorem notN_oN (o : Option Nat) : notN (oN o) .non = some (.bl o.isSome) := by cases o <;> rfl
theorem same_li2 (a b : Option Nat) : U__law_same (.lst [oN a, oN b]) (.lst [oN a, oN b]) = .ok (.bl true) := by
  apply same_ok
  refine ⟨by simp, fun x hx => ?_⟩
  simp only [List.mem_cons, List.not_mem_nil, or_false] at hx
  rcases hx with rfl | rfl <;> exact fitS_oN _ _
theorem same_li3 (a b c : Option Nat) : U__law_same (.lst [oN a, oN b, oN c]) (.lst [oN a, oN b, oN c]) = .ok (.bl true) := by
  apply same_ok
  refine ⟨by simp, fun x hx => ?_⟩
  simp only [List.mem_cons, List.not_mem_nil, or_false] at hx
  rcases hx with rfl | rfl | rfl <;> exact fitS_oN _ _
/-- one order of the three -/
theorem order_ok {la lb lc ra rb rc : Nat} (ha : 0 < la ∧ la ≤ 12) (hb : 0 < lb ∧ lb ≤ 12) (hc : 0 < lc ∧ lc ≤ 12) (ka : ra < la) (kb : rb < lb) (kc : rc < lc) {y : Nat} (hy : restIn la lb ra rb = some y) :
    U__law_both (.int la) (.int lb) = .ok (.int (Nat.lcm la lb : Nat)) ∧ U__law_heard (.int (Nat.lcm la lb : Nat)) (.int lc) (.lst [.int y, .int rc]) = .ok (oN (leastN [la, lb, lc] [ra, rb, rc])) ∧
    U__law_heard (.int lc) (.int (Nat.lcm la lb : Nat)) (.tup [.int rc, .int y]) = .ok (oN (leastN [la, lb, lc] [ra, rb, rc])) := by
  have hp : 0 < Nat.lcm la lb := Nat.lcm_pos ha.1 hb.1
  have hl := lcm12 ha hb
  have hy2 : y < Nat.lcm la lb := by
    unfold restIn at hy
    rw [List.find?_range_eq_some] at hy
    exact List.mem_range.mp hy.2.1
  refine ⟨law_both_ok la lb ha.1 hb.1 (by omega), ?_, ?_⟩
  · rw [law_heard_ok (prish.lst _ _) ⟨hp, by omega⟩ ⟨hc.1, by omega⟩ hy2 kc, least3 hy]
  · have := law_heard_ok (prish.of rc y) ⟨hc.1, by omega⟩ ⟨hp, by omega⟩ kc hy2
    unfold pr at this
    rw [this, least3 hy, restIn_comm]
theorem ninD_3 (a b c : Option Nat) : ninD .non (.lst [oN a, oN b, oN c]) = some (.bl (a.isSome && b.isSome && c.isSome)) := by
  cases a <;> cases b <;> cases c <;> rfl
theorem right3 {t : List D} {k l0 l1 l2 r0 r1 r2 : Nat} (h0 : 0 < l0 ∧ l0 ≤ 12) (h1 : 0 < l1 ∧ l1 ≤ 12) (h2 : 0 < l2 ∧ l2 ≤ 12) (k0 : r0 < l0) (k1 : r1 < l1) (k2 : r2 < l2) (ht : OkT t (k + 3)) :
    ∃ t', U__law_right_3 t (li3 l0 l1 l2) (li3 r0 r1 r2) (oN (leastN [l0, l1, l2] [r0, r1, r2])) (.lst [oN (restIn l0 l1 r0 r1), oN (restIn l0 l2 r0 r2), oN (restIn l1 l2 r1 r2)]) = .ok (.bl true, t') ∧ OkT t' k := by
  obtain ⟨t', e4, g⟩ := right4 h0 h1 h2 k0 k1 k2 ht (b := oN (restIn l0 l2 r0 r2)) (c := oN (restIn l1 l2 r1 r2))
  refine ⟨t', ?_, g⟩
  have iff := three_iff h0 h1 h2 k0 k1 k2
  unfold U__law_right_3
  rw [notN_oN, ninD_3, iff]
  simp only [o2f_some, FR.bind_ok, neD_bl, decide_true, Bool.not_true, boolU_bl, cond_false]
  have hh : ∀ {m n a b : Nat}, 0 < m ∧ m ≤ 12 → 0 < n ∧ n ≤ 12 → a < m → b < n → U__law_heard (.int m) (.int n) (.tup [.int a, .int b]) = .ok (oN (restIn m n a b)) := fun {m n a b} hm hn ha hb => by
    have := law_heard_ok (prish.of a b) ⟨hm.1, by omega⟩ ⟨hn.1, by omega⟩ ha hb
    unfold pr at this; exact this
  have one : ∀ {la lb lc ra rb rc : Nat} (x y z : D), 0 < la ∧ la ≤ 12 → 0 < lb ∧ lb ≤ 12 → 0 < lc ∧ lc ≤ 12 → ra < la → rb < lb → rc < lc →
      idxD (li3 l0 l1 l2) x = some (.int la) → idxD (li3 l0 l1 l2) y = some (.int lb) → idxD (li3 l0 l1 l2) z = some (.int lc) → idxD (li3 r0 r1 r2) x = some (.int ra) → idxD (li3 r0 r1 r2) y = some (.int rb) → idxD (li3 r0 r1 r2) z = some (.int rc) → leastN [l0, l1, l2] [r0, r1, r2] = leastN [la, lb, lc] [ra, rb, rc] →
      (fun x => un3 x fun a b_1 c => (o2f (idxD (li3 l0 l1 l2) a)).bind fun z_3 => (o2f (idxD (li3 l0 l1 l2) b_1)).bind fun z_4 => (o2f (idxD (li3 r0 r1 r2) a)).bind fun z_5 => (o2f (idxD (li3 r0 r1 r2) b_1)).bind fun z_6 => (U__law_heard z_3 z_4 (D.tup [z_5, z_6])).bind fun near_1 => (o2f (notN near_1 D.non)).bind fun z_7 => boolU z_7 fun b_2 => bif b_2 then (o2f (idxD (li3 l0 l1 l2) a)).bind fun z_8 => (o2f (idxD (li3 l0 l1 l2) b_1)).bind fun z_9 => (U__law_both z_8 z_9).bind fun both_1 => (o2f (idxD (li3 l0 l1 l2) c)).bind fun z_10 => (o2f (idxD (li3 r0 r1 r2) c)).bind fun z_11 => (U__law_heard both_1 z_10 (D.lst [near_1, z_11])).bind fun z_12 => (o2f (idxD (li3 l0 l1 l2) c)).bind fun z_13 => (o2f (idxD (li3 r0 r1 r2) c)).bind fun z_14 => (U__law_heard z_13 both_1 (D.tup [z_14, near_1])).bind fun z_15 => (U__law_same (D.lst [z_12, z_15]) (D.lst [oN (leastN [l0, l1, l2] [r0, r1, r2]), oN (leastN [l0, l1, l2] [r0, r1, r2])])).bind fun z_16 => boolU z_16 fun b_3 => bif (!b_3) then .ok (some ((D.bl false), t)) else .ok none else .ok none) (.tup [x, y, z]) = .ok none := by
    intro la lb lc ra rb rc x y z ha hb hc ka kb kc x1 y1 z1 x2 y2 z2 el
    simp only [un3_tup, x1, y1, z1, x2, y2, z2, o2f_some, FR.bind_ok, hh ha hb ka kb, notN_oN, boolU_bl]
    cases hy : restIn la lb ra rb with
    | none => rfl
    | some y =>
      obtain ⟨e1, e2, e3⟩ := order_ok ha hb hc ka kb kc hy
      simp only [Option.isSome_some, cond_true, e1, FR.bind_ok, oN_some, e2, e3, ← el]
      have := same_li2 (leastN [l0, l1, l2] [r0, r1, r2]) (leastN [l0, l1, l2] [r0, r1, r2])
      rw [this]; rfl
  have i0 : ∀ a b c : Nat, idxD (li3 a b c) (.int 0) = some (.int a) := fun a b c => by unfold li3; simp
  have i1 : ∀ a b c : Nat, idxD (li3 a b c) (.int 1) = some (.int b) := fun a b c => by unfold li3; simp
  have i2 : ∀ a b c : Nat, idxD (li3 a b c) (.int 2) = some (.int c) := fun a b c => by unfold li3; simp
  have f1 := one (.int 0) (.int 1) (.int 2) h0 h1 h2 k0 k1 k2 (i0 _ _ _) (i1 _ _ _) (i2 _ _ _) (i0 _ _ _) (i1 _ _ _) (i2 _ _ _) rfl
  have f2 := one (.int 0) (.int 2) (.int 1) h0 h2 h1 k0 k2 k1 (i0 _ _ _) (i2 _ _ _) (i1 _ _ _) (i0 _ _ _) (i2 _ _ _) (i1 _ _ _) (leastN_perm1 _ _ _ _ _ _)
  have f3 := one (.int 1) (.int 2) (.int 0) h1 h2 h0 k1 k2 k0 (i1 _ _ _) (i2 _ _ _) (i0 _ _ _) (i1 _ _ _) (i2 _ _ _) (i0 _ _ _) (leastN_perm2 _ _ _ _ _ _)
  simp only [findU, f1, f2, f3, FR.bind_ok, FR.els_none]
  exact e4
theorem right2 {t : List D} {k l0 l1 l2 r0 r1 r2 : Nat} (h0 : 0 < l0 ∧ l0 ≤ 12) (h1 : 0 < l1 ∧ l1 ≤ 12) (h2 : 0 < l2 ∧ l2 ≤ 12) (k0 : r0 < l0) (k1 : r1 < l1) (k2 : r2 < l2) (ht : OkT t (k + 3)) :
    ∃ t', U__law_right_2 t (li3 l0 l1 l2) (li3 r0 r1 r2) = .ok (.bl true, t') ∧ OkT t' k := by
  obtain ⟨t', e3, g⟩ := right3 h0 h1 h2 k0 k1 k2 ht
  refine ⟨t', ?_, g⟩
  have hh : ∀ {m n a b : Nat}, 0 < m ∧ m ≤ 12 → 0 < n ∧ n ≤ 12 → a < m → b < n → U__law_heard (.int m) (.int n) (.tup [.int a, .int b]) = .ok (oN (restIn m n a b)) := fun {m n a b} hm hn ha hb => by
    have := law_heard_ok (prish.of a b) ⟨hm.1, by omega⟩ ⟨hn.1, by omega⟩ ha hb
    unfold pr at this; exact this
  unfold U__law_right_2
  rw [least3_ok h0 h1 h2, FR.bind_ok, seqU_lst, lcU_lit3 (x := oN (restIn l0 l1 r0 r1)) (y := oN (restIn l0 l2 r0 r2)) (z := oN (restIn l1 l2 r1 r2)) (by unfold li3; simp [hh h0 h1 k0 k1]) (by unfold li3; simp [hh h0 h2 k0 k2]) (by unfold li3; simp [hh h1 h2 k1 k2]), FR.bind_ok, seqU_lst]
  rw [lcU_lit3 (x := oN (restIn l0 l1 r0 r1)) (y := oN (restIn l0 l2 r0 r2)) (z := oN (restIn l1 l2 r1 r2)) (by unfold li3; simp [least2_ok h0 h1]) (by unfold li3; simp [least2_ok h0 h2]) (by unfold li3; simp [least2_ok h1 h2]), FR.bind_ok, same_li3, FR.bind_ok, e3]
  rfl
theorem right1 {t : List D} {k l0 l1 l2 : Nat} (h0 : 0 < l0 ∧ l0 ≤ 12) (h1 : 0 < l1 ∧ l1 ≤ 12) (h2 : 0 < l2 ∧ l2 ≤ 12) (ht : OkT t (k + 8)) :
    ∃ t', U__law_right_1 t (li3 l0 l1 l2) = .ok (.bl true, t') ∧ OkT t' k := by
  obtain ⟨r0, r1, r2, t1, e1, a0, a1, a2, g1⟩ := draws3 (k := k + 5) h0 h1 h2 ht
  obtain ⟨c, t2, e2, c1, g2⟩ := take_int (b := 2) (k := k + 4) g1 (by omega) (by omega)
  unfold U__law_right_1 li3
  rw [seqU_lst, e1, FR.bind_ok]
  rw [e2, FR.bindN_ok]
  simp only [eqD_int, o2f_some, FR.bind_ok, boolU_bl]
  by_cases hc : (c : Int) = 0
  · obtain ⟨x, t3, e3, x1, g3⟩ := take_int (b := 2000) (k := k + 3) g2 (by omega) (by omega)
    obtain ⟨t4, e4, g4⟩ := right2 (r0 := x % l0) (r1 := x % l1) (r2 := x % l2) h0 h1 h2 (Nat.mod_lt _ h0.1) (Nat.mod_lt _ h1.1) (Nat.mod_lt _ h2.1) g3
    refine ⟨t4, ?_, g4⟩
    have m0 : (0 : Int) < l0 := by omega
    have m1 : (0 : Int) < l1 := by omega
    have m2 : (0 : Int) < l2 := by omega
    simp only [hc, decide_true, cond_true]
    rw [e3, FR.bindN_ok, seqU_lst, lcU_lit3 (x := .int ((x % l0 : Nat) : Int)) (y := .int ((x % l1 : Nat) : Int)) (z := .int ((x % l2 : Nat) : Int)) (by simp [modD_int m0]) (by simp [modD_int m1]) (by simp [modD_int m2]), FR.bind_ok]
    exact e4
  · obtain ⟨t4, e4, g4⟩ := right2 h0 h1 h2 a0 a1 a2 (g2.mono (Nat.le_succ _))
    refine ⟨t4, ?_, g4⟩
    simp only [hc, decide_false, cond_false]
    exact e4
theorem right_ok {t : List D} {k : Nat} (ht : OkT t (k + 13)) : ∃ t', U__law_right t = .ok (.bl true, t') ∧ OkT t' k := by
  obtain ⟨a0, t0, e0, b0, g0⟩ := take_int (b := 12) (k := k + 12) ht (by omega) (by omega)
  obtain ⟨a1, t1, e1, b1, g1⟩ := take_int (b := 12) (k := k + 11) g0 (by omega) (by omega)
  obtain ⟨a2, t2, e2, b2, g2⟩ := take_int (b := 12) (k := k + 10) g1 (by omega) (by omega)
  obtain ⟨c, t3, e3, b3, g3⟩ := take_int (b := 2) (k := k + 9) g2 (by omega) (by omega)
  have ls : lcT (fun k_ t_1 => (U__law_take t_1 (D.int 12)).bindN fun r => (o2f (addD (D.int 1) r.1)).bind fun z => .ok (z, r.2)) [.int 0, .int 1, .int 2] t = .ok ([.int ((a0 + 1 : Nat) : Int), .int ((a1 + 1 : Nat) : Int), .int ((a2 + 1 : Nat) : Int)], t2) := by
    simp [lcT, mapT, e0, e1, e2, Int.add_comm]
  unfold U__law_right
  rw [rg3', o2f_some, FR.bind_ok, ls, FR.bind_ok]
  rw [e3, FR.bindN_ok]
  simp only [eqD_int, o2f_some, FR.bind_ok, boolU_bl]
  by_cases hc : (c : Int) = 0
  · obtain ⟨x, hx, t4, e4, g4⟩ := law_of_ok (k := k + 8) (fun p : Nat × Nat × Nat => D.tup [.int p.1, .int p.2.1, .int p.2.2]) [(4, 6, 10), (6, 10, 12), (6, 10, 9), (8, 12, 6), (2, 4, 8), (12, 9, 6), (3, 5, 7)] (.inl rfl) g3 (by simp) (by simp)
    have hb : (0 < x.1 ∧ x.1 ≤ 12) ∧ (0 < x.2.1 ∧ x.2.1 ≤ 12) ∧ (0 < x.2.2 ∧ x.2.2 ≤ 12) := by
      simp only [List.mem_cons, List.not_mem_nil, or_false] at hx
      rcases hx with rfl | rfl | rfl | rfl | rfl | rfl | rfl <;> decide
    obtain ⟨t5, e5, g5⟩ := right1 hb.1 hb.2.1 hb.2.2 g4
    refine ⟨t5, ?_, g5⟩
    simp only [hc, decide_true, cond_true]
    simp only [List.map_cons, List.map_nil] at e4
    have e4' : U__law_of t3 (D.lst [(D.tup [(D.int 4), (D.int 6), (D.int 10)]), (D.tup [(D.int 6), (D.int 10), (D.int 12)]), (D.tup [(D.int 6), (D.int 10), (D.int 9)]), (D.tup [(D.int 8), (D.int 12), (D.int 6)]), (D.tup [(D.int 2), (D.int 4), (D.int 8)]), (D.tup [(D.int 12), (D.int 9), (D.int 6)]), (D.tup [(D.int 3), (D.int 5), (D.int 7)])]) = .ok (D.tup [.int x.1, .int x.2.1, .int x.2.2], t4) := e4
    rw [e4', FR.bindN_ok, listO_tup, o2f_some, FR.bind_ok]
    exact e5
  · obtain ⟨t5, e5, g5⟩ := right1 (l0 := a0 + 1) (l1 := a1 + 1) (l2 := a2 + 1) (by omega) (by omega) (by omega) (g3.mono (Nat.le_succ _))
    refine ⟨t5, ?_, g5⟩
    simp only [hc, decide_false, cond_false]
    exact e5
theorem box_ok {cs : List Int} {k : Nat} (hk : k < cs.length) : ∃ t, U__law_box (.lst (iL cs)) (.int k) = .ok t ∧ OkT t 1000000000 :=
  box_form _ (fun s k => rfl) hk
theorem U_law_ok (ns : List Int) (h : ns.length ≤ 63) : U_law (.scr ns) = .ok (.bl true) := by
  obtain ⟨cs, e1, c1, c2⟩ := cells_ok (m := 2) h (by omega) (by omega)
  unfold U_law
  rw [show (D.int 2) = .int ((2 : Nat) : Int) from rfl, e1]
  simp only [FR.bind_ok, lenD_lst, iL_length, o2f_some]
  rw [rg1_nat (by omega), o2f_some, FR.bind_ok, findU_ok (p := fun _ => none) (fun n hn => by
    rw [List.mem_range] at hn
    obtain ⟨t, e2, g⟩ := box_ok hn
    rw [e2, FR.bind_ok, show (5 : Int) = ((5 : Nat) : Int) from rfl, rg1_nat (by omega), o2f_some, FR.bind_ok]
    obtain ⟨vs, t', e3, v1, v2, g'⟩ := lcT_ok (e := D.bl) (fun b => b = true) 13 (List.range 5) 0 (g := fun (i : Nat) => D.int i) (f := fun lap t_1 => (U__law_right t_1).bindN fun r_1 => .ok (r_1.1, r_1.2)) (t := t) (by simp) (g.mono (by simp)) (fun x hx k t ht => by
      obtain ⟨t', e, g⟩ := right_ok ht
      exact ⟨true, t', by rw [e]; rfl, rfl, g⟩)
    rw [e3, FR.bind_ok]
    have : allD [.lst (vs.map D.bl)] = some (.bl true) := by
      have := allD_map id vs
      rw [show vs.all id = true from List.all_eq_true.mpr fun x hx => v2 x hx] at this
      exact this
    simp [this])]
  rw [show ((List.range cs.length).findSome? fun _ => (none : Option D)) = none from by rw [List.findSome?_eq_none_iff]; intros; rfl]
  rfl
theorem math (ns : List Int) (h : ns.length ≤ 63) : F_law [.scr ns] = .ok (.val (.bl true)) := by
  have := u_law [.scr ns]
  rw [show L_law [.scr ns] = U_law (.scr ns) from rfl, U_law_ok ns h] at this
  rcases this with h | ⟨l, h, _⟩
  · exact h
  · cases h
end WK

set_option maxRecDepth 100000
set_option maxHeartbeats 0
open PySem PySem.W PySem.Calls PyProof.Rows
theorem PySem.Challenge.cw_meetwithin_k57_main_three_lengths_come_t_holds : PySem.Challenge.rw_meetwithin_k57_main_three_lengths_come_t.Holds := by
  w_on; o_law
  refine HandSHeadRun.head_any (r := OpenLaw.row PySem.Challenge.rw_meetwithin_k57_main_three_lengths_come_t) (q := view (OpenLaw.row PySem.Challenge.rw_meetwithin_k57_main_three_lengths_come_t).prog [50]) (H := WK.hk) (ob := WK.ob) (M := 8000) (loose := WK.nms) (d := HandSHeadRun.topDef (OpenLaw.row PySem.Challenge.rw_meetwithin_k57_main_three_lengths_come_t).prog 50) (kwd := []) WK.ob_eq
    (by kernel_rfl) (fun s => by kernel_rfl) WK.run (by kernel_rfl) (by kernel_rfl) (by kernel_rfl) (by rfl) (by first | assumption | decide +kernel) (by decide +kernel) ⟨rfl, rfl, rfl, rfl, rfl, by decide +kernel⟩ ?hw ?hc
  case hw => w_witness2
  case hc =>
    refine L2.walk_ofE (l := PySem.Challenge.rw_meetwithin_k57_main_three_lengths_come_t) (n := 63) (k := 15) (x := "script") (CX := L2.CX0) rfl (by decide) (by kernel_rfl) ⟨rfl, by decide, by decide⟩ ?F (fun _ _ _ _ z => z)
    intro w mg fa h Y G hmg0
    obtain ⟨K, KX, c, ce⟩ := Y
    have hmg : mg ("law" : PySem.Str) = some (.ref fa) := by
      have e : (HandSHeadRun.topDef (OpenLaw.row PySem.Challenge.rw_meetwithin_k57_main_three_lengths_come_t).prog 50).name = ("law" : PySem.Str) := by kernel_rfl
      rw [← e]
      exact hmg0
    obtain ⟨fd, hb, hF⟩ := WK.facts (P := (PySem.Challenge.rw_meetwithin_k57_main_three_lengths_come_t).prog) (w := w) KX G hmg c ce
    exact ⟨K, fd, DL.spL K mg WK.F_law, KX, hb, fun H a ns hl _ hS => DL.law_asks (WK.math ns hl) hS, hF⟩
