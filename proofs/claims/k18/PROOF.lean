import PyProof.Rows.All
import Wide.All
import OpenK.AllK
import Wide.FinOn
import HandS.ForMost
import HandS.ForExc
import HandS.Wide
import HandS.IsInst
import HandS.Evl
import HandS.HeadEnd
import HandS.HeadHook2
import HandS.Head2
import PySem.Challenge.RW_shortheld_k18_progressions
set_option Elab.async false
set_option linter.all false
set_option maxRecDepth 100000
set_option maxHeartbeats 4000000
/-! # The base: what is frozen, what is owned; steps of readings -/
namespace Sh
open PySem PySem.Spec PyProof.Rows L2

/-! ### heaps: F frozen for good, M owned (may still change), H as it is -/
abbrev Ow := List (Addr × HO)
class Hs (F : outParam Hp) (M : outParam Ow) (H : Hp) : Prop where
  fz : Same F H
  ow : ∀ (i : Nat) p o, M[i]? = some (p, o) → H p = some o
  fr : ∀ (i : Nat) p o, M[i]? = some (p, o) → F p = none
  nd : ∀ (i j : Nat) p o o', M[i]? = some (p, o) → M[j]? = some (p, o') → i = j
theorem same_upd {H : Hp} {p : Addr} {o : HO} (h : H p = none) : Same H (upd H p o) := fun b x e => by
  rw [upd_ne (ne_of_none e h)]
  exact e
section
variable {F F' H : Hp} {M : Ow} {p a : Addr} {o o' u : HO} {j : Nat}
theorem Hs.start : Hs H [] H := ⟨Same.refl H, fun i p o e => by simp at e, fun i p o e => by simp at e, fun i j p o o' e => by simp at e⟩
theorem Hs.f (h : Hs F M H) (e : F a = some u) : H a = some u := h.fz _ _ e
theorem Hs.at (h : Hs F M H) (e : M[j]? = some (a, u)) : H a = some u := h.ow _ _ _ e
theorem Hs.free (h : Hs F M H) (e : H p = none) : F p = none := h.fz.free e
theorem Hs.new (h : Hs F M H) (hp : H p = none) : Hs F ((p, o) :: M) (upd H p o) := by
  refine ⟨h.fz.trans (same_upd hp), fun i q u e => ?_, fun i q u e => ?_, fun i j q u u' e e' => ?_⟩
  · cases i with
    | zero => simp at e; obtain ⟨rfl, rfl⟩ := e; exact upd_same
    | succ i =>
      have e1 := h.ow i q u (by simpa using e)
      rw [upd_ne (ne_of_none e1 hp)]; exact e1
  · cases i with
    | zero => simp at e; obtain ⟨rfl, rfl⟩ := e; exact h.free hp
    | succ i => exact h.fr i q u (by simpa using e)
  · cases i with
    | zero =>
      simp at e; obtain ⟨rfl, rfl⟩ := e
      cases j with
      | zero => rfl
      | succ j =>
        have e1 := h.ow j p u' (by simpa using e')
        rw [hp] at e1; cases e1
    | succ i =>
      cases j with
      | zero =>
        simp at e'; obtain ⟨rfl, rfl⟩ := e'
        have e1 := h.ow i p u (by simpa using e)
        rw [hp] at e1; cases e1
      | succ j => exact congrArg (· + 1) (h.nd i j q u u' (by simpa using e) (by simpa using e'))
theorem Hs.newF (h : Hs F M H) (hp : H p = none) : Hs (upd F p o) M (upd H p o) := by
  refine ⟨fun b u e => ?_, fun i q u e => ?_, fun i q u e => ?_, h.nd⟩
  · by_cases hb : b = p
    · subst hb; rw [upd_same] at e ⊢; exact e
    · rw [upd_ne hb] at e ⊢; exact h.fz _ _ e
  · have e1 := h.ow i q u e
    rw [upd_ne (ne_of_none e1 hp)]; exact e1
  · have e1 := h.ow i q u e
    rw [upd_ne (ne_of_none e1 hp)]; exact h.fr i q u e
theorem Hs.set (h : Hs F M H) (hm : M[j]? = some (p, o)) : Hs F (M.set j (p, o')) (upd H p o') := by
  have hj : j < M.length := (List.getElem?_eq_some_iff.mp hm).1
  have key : ∀ (i : Nat) q u, (M.set j (p, o'))[i]? = some (q, u) → (i = j ∧ q = p ∧ u = o') ∨ (i ≠ j ∧ M[i]? = some (q, u)) := fun i q u e => by
    by_cases hi : i = j
    · subst hi
      rw [List.getElem?_set_self hj] at e
      cases e; exact .inl ⟨rfl, rfl, rfl⟩
    · rw [List.getElem?_set_ne (Ne.symm hi)] at e
      exact .inr ⟨hi, e⟩
  refine ⟨fun b u e => ?_, fun i q u e => ?_, fun i q u e => ?_, fun i k q u u' e e' => ?_⟩
  · have hb : b ≠ p := fun z => by rw [z, h.fr j p o hm] at e; cases e
    rw [upd_ne hb]; exact h.fz _ _ e
  · rcases key i q u e with ⟨_, z1, z2⟩ | ⟨hi, e1⟩
    · rw [z1, z2]; exact upd_same
    · have hq : q ≠ p := fun z => hi (h.nd i j q u o e1 (by rw [z]; exact hm))
      rw [upd_ne hq]; exact h.ow i q u e1
  · rcases key i q u e with ⟨_, z1, z2⟩ | ⟨hi, e1⟩
    · rw [z1]; exact h.fr j _ o hm
    · exact h.fr i q u e1
  · rcases key i q u e with ⟨z1, z2, _⟩ | ⟨_, e1⟩
    · rcases key k q u' e' with ⟨z3, _, _⟩ | ⟨_, e2⟩
      · rw [z1, z3]
      · rw [z1]; rw [z2] at e2; exact h.nd _ _ _ _ _ hm e2
    · rcases key k q u' e' with ⟨z3, z4, _⟩ | ⟨_, e2⟩
      · rw [z3]; rw [z4] at e1; exact h.nd _ _ _ _ _ e1 hm
      · exact h.nd _ _ _ _ _ e1 e2
theorem get_erase {α : Type} {l : List α} {i j : Nat} {x : α} (e : (l.eraseIdx j)[i]? = some x) : ∃ i', i' ≠ j ∧ l[i']? = some x ∧ i = (if i' < j then i' else i' - 1) := by
  rw [List.getElem?_eraseIdx] at e
  split at e
  · exact ⟨i, by omega, e, by rw [if_pos (by assumption)]⟩
  · exact ⟨i + 1, by omega, e, by rw [if_neg (by omega)]; omega⟩
theorem Hs.drop (h : Hs F M H) (j : Nat) : Hs F (M.eraseIdx j) H := by
  refine ⟨h.fz, fun i q u e => ?_, fun i q u e => ?_, fun i k q u u' e e' => ?_⟩
  · obtain ⟨i', _, e, _⟩ := get_erase e; exact h.ow _ _ _ e
  · obtain ⟨i', _, e, _⟩ := get_erase e; exact h.fr _ _ _ e
  · obtain ⟨i', _, e, z⟩ := get_erase e
    obtain ⟨k', _, e', z'⟩ := get_erase e'
    have := h.nd _ _ _ _ _ e e'
    subst this; rw [z, z']
theorem Hs.freeze (h : Hs F M H) (hm : M[j]? = some (p, o)) : Hs (upd F p o) (M.eraseIdx j) H := by
  have h2 := h.drop j
  refine ⟨fun b u e => ?_, h2.ow, fun i q u e => ?_, h2.nd⟩
  · by_cases hb : b = p
    · subst hb; rw [upd_same] at e; cases e; exact h.ow _ _ _ hm
    · rw [upd_ne hb] at e; exact h.fz _ _ e
  · obtain ⟨i', hi, e, _⟩ := get_erase e
    have hq : q ≠ p := fun z => by subst z; exact hi (h.nd i' j q u o e hm)
    rw [upd_ne hq]; exact h.fr _ _ _ e
theorem Hs.same_freeze (h : Hs F M H) (hm : M[j]? = some (p, o)) : Same F (upd F p o) := same_upd (h.fr _ _ _ hm)
end
section
variable {K : PySem.W.Frag} {F F' H H' : Hp} {M : Ow} {a : Addr} {xs : List V}
theorem same_l (e : Same H H') (h : SqL K H a xs) : SqL K H' a xs := e.seq h
theorem same_t (e : Same H H') (h : SqT K H a xs) : SqT K H' a xs := by
  rcases h with (h | ⟨o, h⟩) | h
  · exact .inl (.inl (e _ _ h))
  · exact .inl (.inr ⟨o, e _ _ h⟩)
  · exact .inr h
theorem sz {n : Nat} (h : n ≤ 16777216) : n ≤ sizeLine := by rw [sizeLine_eq]; exact h
theorem szl {n : Nat} (h : n < 16777216) : n < sizeLine := by rw [sizeLine_eq]; exact h
end

/-! ### attributes: the names in order, the values in order -/
theorem fld_get : ∀ {ns : List Str} {vs : List V} {i : Nat} {f : Str} {v : V}, ns.Nodup → ns[i]? = some f → vs[i]? = some v → (ns.zip vs).lookup f = some v
  | [], _, _, _, _, _, h, _ => by simp at h
  | _ :: _, [], _, _, _, _, _, h => by simp at h
  | n :: ns, v :: vs, 0, f, w, _, h, h2 => by
    simp at h h2; subst h h2
    simp [List.zip_cons_cons, List.lookup]
  | n :: ns, v :: vs, i + 1, f, w, hd, h, h2 => by
    have hd' := List.nodup_cons.mp hd
    have hm : f ∈ ns := List.mem_of_getElem? (by simpa using h)
    have hne : (f == n) = false := beq_eq_false_iff_ne.mpr fun z => hd'.1 (z ▸ hm)
    rw [List.zip_cons_cons, List.lookup, hne]
    exact fld_get hd'.2 (by simpa using h) (by simpa using h2)
theorem fld_put : ∀ {ns : List Str} {vs : List V} {i : Nat} {f : Str} {v : V}, ns.Nodup → ns[i]? = some f → i < vs.length → putF f v (ns.zip vs) = ns.zip (vs.set i v)
  | [], _, _, _, _, _, h, _ => by simp at h
  | _ :: _, [], _, _, _, _, _, h => by simp at h
  | n :: ns, w :: vs, 0, f, v, _, h, _ => by
    simp at h; subst h
    show (if n = n then _ else _) = _
    rw [if_pos rfl]; rfl
  | n :: ns, w :: vs, i + 1, f, v, hd, h, h2 => by
    have hd' := List.nodup_cons.mp hd
    have hm : f ∈ ns := List.mem_of_getElem? (by simpa using h)
    have hne : ¬ n = f := fun z => hd'.1 (z ▸ hm)
    show (if n = f then _ else (n, w) :: putF f v (ns.zip vs)) = (n, w) :: ns.zip (vs.set i v)
    rw [if_neg hne, fld_put hd'.2 (by simpa using h) (by simpa using h2)]
theorem fld_new : ∀ {ns : List Str} {vs : List V} {f : Str} {v : V}, ns.Nodup → ns[vs.length]? = some f → putF f v (ns.zip vs) = ns.zip (vs ++ [v])
  | [], _, _, _, _, h => by simp at h
  | n :: ns, [], f, v, _, h => by
    simp at h; subst h; simp [putF]
  | n :: ns, w :: vs, f, v, hd, h => by
    have hd' := List.nodup_cons.mp hd
    have h' : ns[vs.length]? = some f := by simpa using h
    have hm : f ∈ ns := List.mem_of_getElem? h'
    have hne : ¬ n = f := fun z => hd'.1 (z ▸ hm)
    show (if n = f then _ else (n, w) :: putF f v (ns.zip vs)) = (n, w) :: ns.zip (vs ++ [v])
    rw [if_neg hne, fld_new hd'.2 h']
theorem fld_none : ∀ {ns : List Str} {vs : List V} {f : Str}, f ∉ ns → (ns.zip vs).lookup f = none
  | [], _, _, _ => by simp
  | _ :: _, [], _, _ => by simp
  | n :: ns, w :: vs, f, h => by
    have hne : (f == n) = false := beq_eq_false_iff_ne.mpr fun z => h (by rw [z]; exact List.mem_cons_self)
    rw [List.zip_cons_cons, List.lookup, hne]
    exact fld_none fun z => h (List.mem_cons_of_mem _ z)
theorem zip_len {ns : List Str} {vs : List V} (h : ns.length < 1000) : (ns.zip vs).length < 1000 := by
  rw [List.length_zip]; omega
/-- an instance: class, own dict, the names, the values -/
abbrev Ob (C dx : Addr) (ns : List Str) (vs : List V) : HO := .ins C dx (ns.zip vs)
/-- a class whose instances have these attributes -/
class ClsF (K : PySem.W.Frag) (C : Addr) (ns : outParam (List Str)) : Prop where
  cl : Cls K C
  nd : ns.Nodup
  no : ∀ f ∈ ns, NoAttr K C f
  ln : ns.length < 1000

/-! ### what is found by itself: by classes -/
/-- the slot i holds v; the slots behind a store -/
class Lk (σ : L2.St) (i : Nat) (v : outParam V) : Prop where
  h : σ[i]? = some (some v)
instance {v : V} {σ : L2.St} : Lk (some v :: σ) 0 v := ⟨rfl⟩
instance {x : Option V} {σ : L2.St} {i : Nat} {v : V} [l : Lk σ i v] : Lk (x :: σ) (i + 1) v := ⟨by rw [List.getElem?_cons_succ]; exact l.h⟩
class Ss (σ : L2.St) (i : Nat) (x : Option V) (σ' : outParam L2.St) : Prop where
  h : σ.set i x = σ'
instance {x y : Option V} {σ : L2.St} : Ss (y :: σ) 0 x (x :: σ) := ⟨rfl⟩
instance {x y : Option V} {σ σ' : L2.St} {i : Nat} [l : Ss σ i x σ'] : Ss (y :: σ) (i + 1) x (y :: σ') := ⟨by rw [List.set_cons_succ, l.h]⟩
class Nt {α : Type} (xs : List α) (i : Nat) (v : outParam α) : Prop where
  h : xs[i]? = some v
instance {α : Type} {v : α} {xs : List α} : Nt (v :: xs) 0 v := ⟨rfl⟩
instance {α : Type} {x v : α} {xs : List α} {i : Nat} [l : Nt xs i v] : Nt (x :: xs) (i + 1) v := ⟨by rw [List.getElem?_cons_succ]; exact l.h⟩
class Sl {α : Type} (xs : List α) (i : Nat) (x : α) (ys : outParam (List α)) : Prop where
  lt : i < xs.length
  h : xs.set i x = ys
instance {α : Type} {x y : α} {xs : List α} : Sl (y :: xs) 0 x (x :: xs) := ⟨by simp, rfl⟩
instance {α : Type} {x y : α} {xs ys : List α} {i : Nat} [l : Sl xs i x ys] : Sl (y :: xs) (i + 1) x (y :: ys) := ⟨by have := l.lt; simp; omega, by rw [List.set_cons_succ, l.h]⟩
/-- an item by a Python index -/
class At (xs : List V) (i : Int) (v : outParam V) : Prop where
  h : atI xs i = some v
theorem atN {xs : List V} {n : Nat} {v : V} (h : xs[n]? = some v) : At xs (n : Int) v := ⟨atI_nat h⟩
instance {xs : List V} {v : V} [l : Nt xs 0 v] : At xs 0 v := atN (n := 0) l.h
instance {xs : List V} {v : V} [l : Nt xs 1 v] : At xs 1 v := atN (n := 1) l.h
instance {xs : List V} {v : V} [l : Nt xs 2 v] : At xs 2 v := atN (n := 2) l.h
instance {xs : List V} {v : V} [l : Nt xs 3 v] : At xs 3 v := atN (n := 3) l.h
instance {xs : List V} {v : V} [l : Nt xs 4 v] : At xs 4 v := atN (n := 4) l.h
instance {xs : List V} {v : V} [l : Nt xs 5 v] : At xs 5 v := atN (n := 5) l.h
instance {xs : List V} {v : V} : At (xs ++ [v]) (-1) v := ⟨atI_last xs v⟩
/-- among what is owned: the object at p; what is owned behind a change -/
class Im (M : Ow) (p : Addr) (o : outParam HO) : Prop where
  h : ∃ j : Nat, M[j]? = some (p, o)
instance im0 {p : Addr} {o : HO} {M : Ow} : Im ((p, o) :: M) p o := ⟨0, rfl⟩
instance im1 {p : Addr} {o : HO} {x : Addr × HO} {M : Ow} [l : Im M p o] : Im (x :: M) p o := let ⟨j, h⟩ := l.h; ⟨j + 1, by rw [List.getElem?_cons_succ]; exact h⟩
class Sw (M : Ow) (p : Addr) (o' : HO) (M' : outParam Ow) : Prop where
  h : ∃ (j : Nat) (o : HO), M[j]? = some (p, o) ∧ M' = M.set j (p, o')
instance sw0 {p : Addr} {o o' : HO} {M : Ow} : Sw ((p, o) :: M) p o' ((p, o') :: M) := ⟨0, o, rfl, rfl⟩
instance sw1 {p : Addr} {o' : HO} {x : Addr × HO} {M M' : Ow} [l : Sw M p o' M'] : Sw (x :: M) p o' (x :: M') := let ⟨j, o, h, e⟩ := l.h; ⟨j + 1, o, by rw [List.getElem?_cons_succ]; exact h, by rw [List.set_cons_succ, e]⟩
/-- .. without the object at p -/
class Dr (M : Ow) (p : Addr) (o : outParam HO) (M' : outParam Ow) : Prop where
  h : ∃ j : Nat, M[j]? = some (p, o) ∧ M' = M.eraseIdx j
instance dr0 {p : Addr} {o : HO} {M : Ow} : Dr ((p, o) :: M) p o M := ⟨0, rfl, rfl⟩
instance dr1 {p : Addr} {o : HO} {x : Addr × HO} {M M' : Ow} [l : Dr M p o M'] : Dr (x :: M) p o (x :: M') := let ⟨j, h, e⟩ := l.h; ⟨j + 1, by rw [List.getElem?_cons_succ]; exact h, by rw [List.eraseIdx_cons_succ, e]⟩
theorem Hs.im {F H : Hp} {M : Ow} {p : Addr} {o : HO} (hs : Hs F M H) (l : Im M p o) : H p = some o := let ⟨_, h⟩ := l.h; hs.at h
theorem Hs.sw {F H : Hp} {M M' : Ow} {p : Addr} {o' : HO} (hs : Hs F M H) (l : Sw M p o' M') : Hs F M' (upd H p o') := by
  obtain ⟨j, o, h, rfl⟩ := l.h
  exact hs.set h
theorem Hs.dr {F H : Hp} {M M' : Ow} {p : Addr} {o : HO} (hs : Hs F M H) (l : Dr M p o M') : Hs (upd F p o) M' H ∧ Same F (upd F p o) := by
  obtain ⟨j, h, rfl⟩ := l.h
  exact ⟨hs.freeze h, hs.same_freeze h⟩
/-- the place of the object at p: what is owned when it holds this or that -/
class Cell (M : Ow) (p : Addr) (m : outParam (HO → Ow)) : Prop where
  h : ∃ (j : Nat) (o : HO), M[j]? = some (p, o) ∧ ∀ o', m o' = M.set j (p, o')
instance cell0 {p : Addr} {o : HO} {M : Ow} : Cell ((p, o) :: M) p (fun o' => (p, o') :: M) := ⟨0, o, rfl, fun _ => rfl⟩
instance cell1 {p : Addr} {x : Addr × HO} {M : Ow} {m : HO → Ow} [l : Cell M p m] : Cell (x :: M) p (fun o' => x :: m o') :=
  let ⟨j, o, h, e⟩ := l.h; ⟨j + 1, o, by rw [List.getElem?_cons_succ]; exact h, fun o' => by rw [List.set_cons_succ, e]⟩
theorem cell_sw {M : Ow} {p : Addr} {m : HO → Ow} (c : Cell M p m) (o' : HO) : Sw M p o' (m o') := let ⟨j, o, h, e⟩ := c.h; ⟨j, o, h, e o'⟩
theorem cell_im {M : Ow} {p : Addr} {m : HO → Ow} (c : Cell M p m) (o' : HO) : Im (m o') p o' := by
  obtain ⟨j, o, h, e⟩ := c.h
  rw [e o']
  exact ⟨j, List.getElem?_set_self (List.getElem?_eq_some_iff.mp h).1⟩
theorem cell_sw2 {M : Ow} {p : Addr} {m : HO → Ow} (c : Cell M p m) (o o' : HO) : Sw (m o) p o' (m o') := by
  obtain ⟨j, u, h, e⟩ := c.h
  rw [e o, e o']
  exact ⟨j, o, List.getElem?_set_self (List.getElem?_eq_some_iff.mp h).1, by rw [List.set_set]⟩
theorem cell_cell {M : Ow} {p : Addr} {m : HO → Ow} (c : Cell M p m) (o : HO) : Cell (m o) p m := by
  obtain ⟨j, u, h, e⟩ := c.h
  refine ⟨j, o, ?_, fun o' => ?_⟩
  · rw [e o]; exact List.getElem?_set_self (List.getElem?_eq_some_iff.mp h).1
  · rw [e o, e o', List.set_set]
/-- F' goes on from F -/
class Sm (F : outParam Hp) (F' : Hp) : Prop where
  h : Same F F'
/-- frozen: a tuple, a list, an object -/
class FzT (K : PySem.W.Frag) (F : Hp) (a : Addr) (xs : outParam (List V)) : Prop where
  h : SqT K F a xs
class FzL (K : PySem.W.Frag) (F : Hp) (a : Addr) (xs : outParam (List V)) : Prop where
  h : SqL K F a xs
class Fz (F : Hp) (a : Addr) (o : outParam HO) : Prop where
  h : F a = some o
section
variable {K : PySem.W.Frag} {F F' : Hp} {a : Addr} {xs : List V} {o : HO}
instance (priority := 900) [e : Sm F F'] [l : FzT K F a xs] : FzT K F' a xs := ⟨same_t e.h l.h⟩
instance (priority := 900) [e : Sm F F'] [l : FzL K F a xs] : FzL K F' a xs := ⟨same_l e.h l.h⟩
instance (priority := 900) [e : Sm F F'] [l : Fz F a o] : Fz F' a o := ⟨e.h _ _ l.h⟩
theorem FzT.of (h : F a = some (.tup xs)) : FzT K F a xs := ⟨.inl (.inl h)⟩
theorem FzL.of (h : F a = some (.lst xs)) : FzL K F a xs := ⟨.inl (.inl h)⟩
end
/-- the place of an attribute among the names; no attribute -/
class Fx (ns : List Str) (f : Str) (i : outParam Nat) : Prop where
  h : ns[i]? = some f
class Nf (ns : List Str) (f : Str) : Prop where
  h : f ∉ ns
/-! ### one step; steps -/
class St1 (P : Prop) (P' : outParam Prop) : Prop where
  imp : P' → P
class Rn (P : Prop) (P' : outParam Prop) : Prop where
  imp : P' → P
instance (priority := 10) {P : Prop} : Rn P P := ⟨id⟩
instance {P P' P'' : Prop} [a : St1 P P'] [b : Rn P' P''] : Rn P P'' := ⟨fun h => a.imp (b.imp h)⟩
theorem go {P P' P'' : Prop} [a : St1 P P'] [b : Rn P' P''] (h : P'') : P := a.imp (b.imp h)
/-! ### rules by names -/
def rAddI : R2 := rI0 fun i j => .int (i + j)
def rSubI : R2 := rI0 fun i j => .int (i - j)
def rMulI : R2 := rI CMul fun i j => .int (i * j)
def rDivI : R2 := rI CDivW fun i j => .int (i / j)
def rModI : R2 := rI (fun _ j => 0 < j) fun i j => .int (i % j)
def rPowI : R2 := rI CPow fun i j => .int (i ^ j.toNat)
def rLtI : R2 := rI0 fun i j => .bl (decide (i < j))
def rLeI : R2 := rI0 fun i j => .bl (decide (i ≤ j))
def rGtI : R2 := rI0 fun i j => .bl (decide (j < i))
def rGeI : R2 := rI0 fun i j => .bl (decide (j ≤ i))
def rNegI : V → Hp → VK → Prop := rU fun i => .int (-i)
def rIsNone : R2 := fun x y H Q => y = .non ∧ Q (.bl (decide (x = .non))) H
def rNotNone : R2 := fun x y H Q => y = .non ∧ Q (.bl (!decide (x = .non))) H
def rInt1 : List V → Hp → VK → Prop := fun xs H Q => (∃ i, xs = [.int i] ∧ Q (.int i) H) ∨ ∃ k, xs = [.bl k] ∧ Q (.int (if k then 1 else 0)) H
def rMax2 : List V → Hp → VK → Prop := fun xs H Q => ∃ i j, xs = [.int i, .int j] ∧ Q (.int (if j > i then j else i)) H
def rMin2 : List V → Hp → VK → Prop := fun xs H Q => ∃ i j, xs = [.int i, .int j] ∧ Q (.int (if j < i then j else i)) H
def rListOf (K : PySem.W.Frag) : List V → Hp → VK → Prop := fun xs H Q => ∃ p ys, xs = [.ref p] ∧ (SqL K H p ys ∨ SqT K H p ys) ∧ ∀ l, H l = none → Q (.ref l) (upd H l (.lst ys))
def rTupleOf (K : PySem.W.Frag) : List V → Hp → VK → Prop := fun xs H Q => ∃ p ys, xs = [.ref p] ∧ ((SqL K H p ys ∧ ∀ l, H l = none → Q (.ref l) (upd H l (.tup ys))) ∨ (SqT K H p ys ∧ Q (.ref p) H))
def tTru (K : PySem.W.Frag) (ta : TE) : TT := fun σ H Q => ta σ H fun x H' => ∃ k, TruV K x H' k ∧ Q k H'
def rLn (K : PySem.W.Frag) : List V → Hp → VK → Prop := fun xs H Q => ∃ x n, xs = [x] ∧ LenV K x H n ∧ Q (.int n) H
/-- ends by their parts -/
abbrev En (N : L2.St → Hp → Prop) (R : VK) (B C : L2.St → Hp → Prop) : Ends := Ends.mk N R B C
section
variable {K : PySem.W.Frag} {σ σ' : L2.St} {H : Hp} {F : Hp} {M M' : Ow} {Q : VK} {QB : Bool → Hp → Prop} {QA : List V → Hp → Prop} {ta tb te tv : TE} {tt tu : TT} {tr : TA} {t u t1 t2 : TS} {x y v : V} {i j : Int} {n k : Nat} {r : R2}
  {N B C : L2.St → Hp → Prop} {R : VK} {g : TG} {gs : TGs} {p : Addr} {xs ys : List V} {o : HO} {a b : Str} {c d : Bool} {q : Bool → Prop}
-- expressions
instance [l : Lk σ n v] : St1 (tVar n σ H Q) (Q v H) := ⟨fun h => ⟨v, l.h, h⟩⟩
instance : St1 (tC v σ H Q) (Q v H) := ⟨id⟩
instance : St1 (tOp r ta tb σ H Q) (ta σ H fun x H1 => tb σ H1 fun y H2 => r x y H2 Q) := ⟨id⟩
instance {r : V → Hp → VK → Prop} : St1 (tUn r ta σ H Q) (ta σ H fun x H1 => r x H1 Q) := ⟨id⟩
def nBl (x : V) (q : Bool → Prop) : Prop := ∃ k, x = .bl k ∧ q k
instance : St1 (nBl (.bl c) q) (q c) := ⟨fun h => ⟨c, rfl, h⟩⟩
instance : St1 (tTest te σ H QB) (te σ H fun x H' => nBl x fun k => QB k H') := ⟨id⟩
instance : St1 (tB te σ H QB) (te σ H fun x H' => nBl x fun k => QB k H') := ⟨id⟩
instance : St1 (tAnd tt tu σ H QB) (tt σ H fun c H1 => if c = true then tu σ H1 QB else QB false H1) := ⟨id⟩
instance : St1 (tOr tt tu σ H QB) (tt σ H fun c H1 => if c = true then QB true H1 else tu σ H1 QB) := ⟨id⟩
instance : St1 (tNot tt σ H QB) (tt σ H fun c H1 => QB (!c) H1) := ⟨id⟩
instance : St1 (tAndV ta tb σ H Q) (ta σ H fun x H1 => nBl x fun c => if c = true then tb σ H1 Q else Q (.bl false) H1) := ⟨id⟩
instance : St1 (tOrV ta tb σ H Q) (ta σ H fun x H1 => nBl x fun c => if c = true then Q (.bl true) H1 else tb σ H1 Q) := ⟨id⟩
instance : St1 (tNotV ta σ H Q) (ta σ H fun x H1 => nBl x fun c => Q (.bl (!c)) H1) := ⟨id⟩
instance : St1 (tIf tt ta tb σ H Q) (tt σ H fun c H1 => if c = true then ta σ H1 Q else tb σ H1 Q) := ⟨id⟩
instance {A B : Prop} : St1 (if true = true then A else B) A := ⟨fun h => by rw [if_pos rfl]; exact h⟩
instance {A B : Prop} : St1 (if false = true then A else B) B := ⟨fun h => by rw [if_neg Bool.false_ne_true]; exact h⟩
instance {A B : Prop} : St1 (if (!true) = true then A else B) B := ⟨fun h => by rw [if_neg (by decide)]; exact h⟩
instance {A B : Prop} : St1 (if (!false) = true then A else B) A := ⟨fun h => by rw [if_pos (by decide)]; exact h⟩
instance : St1 (nBl (.bl (!true)) q) (q false) := ⟨fun h => ⟨_, rfl, h⟩⟩
instance : St1 (nBl (.bl (!false)) q) (q true) := ⟨fun h => ⟨_, rfl, h⟩⟩
instance : St1 (tYes σ H QB) (QB true H) := ⟨id⟩
instance : St1 (tNil σ H QA) (QA [] H) := ⟨id⟩
instance : St1 (tCons ta tr σ H QA) (ta σ H fun x H1 => tr σ H1 fun xs H2 => QA (x :: xs) H2) := ⟨id⟩
def nTup (xs : List V) (H : Hp) (Q : VK) : Prop := xs.length ≤ sizeLine ∧ ∀ p, H p = none → Q (.ref p) (upd H p (.tup xs))
def nLst (xs : List V) (H : Hp) (Q : VK) : Prop := xs.length ≤ sizeLine ∧ ∀ p, H p = none → Q (.ref p) (upd H p (.lst xs))
instance : St1 (tTup tr σ H Q) (tr σ H fun xs H1 => nTup xs H1 Q) := ⟨id⟩
instance : St1 (tLst tr σ H Q) (tr σ H fun xs H1 => nLst xs H1 Q) := ⟨id⟩
instance {sp : Sp} {dvs : List V} {E : XK} : St1 (tCall sp dvs E tr σ H Q) (tr σ H fun vs H1 => sp (vs ++ dvs) H1 Q E) := ⟨id⟩
instance {r : List V → Hp → VK → Prop} : St1 (tCB r tr σ H Q) (tr σ H fun vs H1 => r vs H1 Q) := ⟨id⟩
-- numbers, texts, truth
instance : St1 (rAddI (.int i) (.int j) H Q) (Q (.int (i + j)) H) := ⟨fun h => ⟨i, j, rfl, rfl, h⟩⟩
instance : St1 (rSubI (.int i) (.int j) H Q) (Q (.int (i - j)) H) := ⟨fun h => ⟨i, j, rfl, rfl, h⟩⟩
instance : St1 (rLtI (.int i) (.int j) H Q) (Q (.bl (decide (i < j))) H) := ⟨fun h => ⟨i, j, rfl, rfl, h⟩⟩
instance : St1 (rLeI (.int i) (.int j) H Q) (Q (.bl (decide (i ≤ j))) H) := ⟨fun h => ⟨i, j, rfl, rfl, h⟩⟩
instance : St1 (rGtI (.int i) (.int j) H Q) (Q (.bl (decide (j < i))) H) := ⟨fun h => ⟨i, j, rfl, rfl, h⟩⟩
instance : St1 (rGeI (.int i) (.int j) H Q) (Q (.bl (decide (j ≤ i))) H) := ⟨fun h => ⟨i, j, rfl, rfl, h⟩⟩
instance : St1 (rNegI (.int i) H Q) (Q (.int (-i)) H) := ⟨fun h => ⟨i, rfl, h⟩⟩
theorem dI : decide (V.int i = V.int j) = decide (i = j) := decide_eq_decide.mpr ⟨V.int.inj, fun e => by rw [e]⟩
theorem dS : decide (V.str a = V.str b) = decide (a = b) := decide_eq_decide.mpr ⟨V.str.inj, fun e => by rw [e]⟩
theorem dB : decide (V.bl c = V.bl d) = decide (c = d) := decide_eq_decide.mpr ⟨V.bl.inj, fun e => by rw [e]⟩
instance : St1 (rEq (.int i) (.int j) H Q) (Q (.bl (decide (i = j))) H) := ⟨fun h => ⟨rfl, by rw [dI]; exact h⟩⟩
instance : St1 (rNe (.int i) (.int j) H Q) (Q (.bl (!decide (i = j))) H) := ⟨fun h => ⟨rfl, by rw [dI]; exact h⟩⟩
instance : St1 (rEq (.str a) (.str b) H Q) (Q (.bl (decide (a = b))) H) := ⟨fun h => ⟨rfl, by rw [dS]; exact h⟩⟩
instance : St1 (rNe (.str a) (.str b) H Q) (Q (.bl (!decide (a = b))) H) := ⟨fun h => ⟨rfl, by rw [dS]; exact h⟩⟩
instance : St1 (rEq (.bl c) (.bl d) H Q) (Q (.bl (decide (c = d))) H) := ⟨fun h => ⟨rfl, by rw [dB]; exact h⟩⟩
instance : St1 (rNe (.bl c) (.bl d) H Q) (Q (.bl (!decide (c = d))) H) := ⟨fun h => ⟨rfl, by rw [dB]; exact h⟩⟩
instance : St1 (rIsNone .non .non H Q) (Q (.bl true) H) := ⟨fun h => ⟨rfl, h⟩⟩
instance : St1 (rIsNone (.ref p) .non H Q) (Q (.bl false) H) := ⟨fun h => ⟨rfl, h⟩⟩
instance : St1 (rIsNone (.int i) .non H Q) (Q (.bl false) H) := ⟨fun h => ⟨rfl, h⟩⟩
instance : St1 (rIsNone (.str a) .non H Q) (Q (.bl false) H) := ⟨fun h => ⟨rfl, h⟩⟩
instance : St1 (rIsNone (.bl c) .non H Q) (Q (.bl false) H) := ⟨fun h => ⟨rfl, h⟩⟩
instance : St1 (rNotNone .non .non H Q) (Q (.bl false) H) := ⟨fun h => ⟨rfl, h⟩⟩
instance : St1 (rNotNone (.ref p) .non H Q) (Q (.bl true) H) := ⟨fun h => ⟨rfl, h⟩⟩
instance : St1 (rNotNone (.int i) .non H Q) (Q (.bl true) H) := ⟨fun h => ⟨rfl, h⟩⟩
instance : St1 (rNotNone (.str a) .non H Q) (Q (.bl true) H) := ⟨fun h => ⟨rfl, h⟩⟩
instance : St1 (rNotNone (.bl c) .non H Q) (Q (.bl true) H) := ⟨fun h => ⟨rfl, h⟩⟩
instance : St1 (rInt1 [.int i] H Q) (Q (.int i) H) := ⟨fun h => .inl ⟨i, rfl, h⟩⟩
instance : St1 (rInt1 [.bl c] H Q) (Q (.int (if c then 1 else 0)) H) := ⟨fun h => .inr ⟨c, rfl, h⟩⟩
-- by words of one's own: bounds
theorem py_mulL (h1 : -18446744073709551616 < i) (h2 : i < 18446744073709551616) (h : Q (.int (i * j)) H) : rMulI (.int i) (.int j) H Q := ⟨i, j, rfl, rfl, .inl ⟨h1, h2⟩, h⟩
theorem py_mulR (h1 : -18446744073709551616 < j) (h2 : j < 18446744073709551616) (h : Q (.int (i * j)) H) : rMulI (.int i) (.int j) H Q := ⟨i, j, rfl, rfl, .inr ⟨h1, h2⟩, h⟩
theorem divW {i j : Int} (h1 : 0 < j) (h2 : j < 18446744073709551616) : CDivW i j := wide_div (b := 64) h1 (by omega) (by decide) (by decide)
theorem py_divI (h1 : 0 < j) (h2 : j < 18446744073709551616) (h : Q (.int (i / j)) H) : rDivI (.int i) (.int j) H Q := ⟨i, j, rfl, rfl, divW h1 h2, h⟩
theorem py_modI (h1 : 0 < j) (h : Q (.int (i % j)) H) : rModI (.int i) (.int j) H Q := ⟨i, j, rfl, rfl, h1, h⟩
theorem py_powI {b : Int} (h1 : 0 ≤ j ∧ j ≤ 1000000 ∧ i.natAbs < 2 ^ 64) (e : i ^ j.toNat = b) (h : Q (.int b) H) : rPowI (.int i) (.int j) H Q := ⟨i, j, rfl, rfl, h1, by show Q (.int (i ^ j.toNat)) H; rw [e]; exact h⟩
instance : St1 (rPowI (.int 10) (.int 18) H Q) (Q (.int 1000000000000000000) H) := ⟨py_powI (by decide) (by decide +kernel)⟩
instance : St1 (rPowI (.int 10) (.int 9) H Q) (Q (.int 1000000000) H) := ⟨py_powI (by decide) (by decide +kernel)⟩
instance : St1 (rPowI (.int 10) (.int 12) H Q) (Q (.int 1000000000000) H) := ⟨py_powI (by decide) (by decide +kernel)⟩
instance : St1 (rPowI (.int 10) (.int 5) H Q) (Q (.int 100000) H) := ⟨py_powI (by decide) (by decide +kernel)⟩
instance : St1 (rPowI (.int 10) (.int 6) H Q) (Q (.int 1000000) H) := ⟨py_powI (by decide) (by decide +kernel)⟩
instance : St1 (rPowI (.int 10) (.int 10) H Q) (Q (.int 10000000000) H) := ⟨py_powI (by decide) (by decide +kernel)⟩
theorem py_max2 {m : Int} (e : (if j > i then j else i) = m) (h : Q (.int m) H) : rMax2 [.int i, .int j] H Q := ⟨i, j, rfl, by rw [e]; exact h⟩
theorem py_min2 {m : Int} (e : (if j < i then j else i) = m) (h : Q (.int m) H) : rMin2 [.int i, .int j] H Q := ⟨i, j, rfl, by rw [e]; exact h⟩
-- new tuples, new lists
theorem nTupF [hs : Hs F M H] (hl : xs.length ≤ 16777216) (h : ∀ p F' H', F p = none → Sm F F' → Hs F' M H' → (∀ K, FzT K F' p xs) → Fz F' p (.tup xs) → Q (.ref p) H') : nTup xs H Q :=
  ⟨sz hl, fun p hp => h p _ _ (hs.free hp) ⟨same_upd (hs.free hp)⟩ (hs.newF hp) (fun _ => .of upd_same) ⟨upd_same⟩⟩
theorem nLstO [hs : Hs F M H] (hl : xs.length ≤ 16777216) (h : ∀ p H', F p = none → Hs F ((p, .lst xs) :: M) H' → Q (.ref p) H') : nLst xs H Q :=
  ⟨sz hl, fun p hp => h p _ (hs.free hp) (hs.new hp)⟩
theorem nLstF [hs : Hs F M H] (hl : xs.length ≤ 16777216) (h : ∀ p F' H', F p = none → Sm F F' → Hs F' M H' → (∀ K, FzL K F' p xs) → Fz F' p (.lst xs) → Q (.ref p) H') : nLst xs H Q :=
  ⟨sz hl, fun p hp => h p _ _ (hs.free hp) ⟨same_upd (hs.free hp)⟩ (hs.newF hp) (fun _ => .of upd_same) ⟨upd_same⟩⟩
-- attributes
def nFld (K : PySem.W.Frag) (f : Str) (x : V) (H : Hp) (Q : VK) : Prop := ∃ a C dx fs v, x = .ref a ∧ H a = some (.ins C dx fs) ∧ Cls K C ∧ NoAttr K C f ∧ fs.lookup f = some v ∧ Q v H
instance {f : Str} : St1 (tFld K ta f σ H Q) (ta σ H fun x H1 => nFld K f x H1 Q) := ⟨id⟩
instance {f : Str} {C dx : Addr} {ns : List Str} {vs : List V} [hs : Hs F M H] [hm : Im M p (Ob C dx ns vs)] [cc : ClsF K C ns] [hi : Fx ns f n] [hv : Nt vs n v] : St1 (nFld K f (.ref p) H Q) (Q v H) :=
  ⟨fun h => ⟨p, C, dx, _, v, rfl, hs.im hm, cc.cl, cc.no f (List.mem_of_getElem? hi.h), fld_get cc.nd hi.h hv.h, h⟩⟩
instance (priority := 900) {f : Str} {C dx : Addr} {ns : List Str} {vs : List V} [hs : Hs F M H] [hm : Fz F p (Ob C dx ns vs)] [cc : ClsF K C ns] [hi : Fx ns f n] [hv : Nt vs n v] : St1 (nFld K f (.ref p) H Q) (Q v H) :=
  ⟨fun h => ⟨p, C, dx, _, v, rfl, hs.f hm.h, cc.cl, cc.no f (List.mem_of_getElem? hi.h), fld_get cc.nd hi.h hv.h, h⟩⟩
def nSet (K : PySem.W.Frag) (f : Str) (y : V) (x : V) (H : Hp) (q : Hp → Prop) : Prop := ∃ a C dx fs, x = .ref a ∧ H a = some (.ins C dx fs) ∧ Cls K C ∧ NoAttr K C f ∧ fs.length < 1000 ∧ q (upd H a (.ins C dx (putF f y fs)))
instance {f : Str} : St1 (sFld K ta tv f (En N R B C) σ H) (tv σ H fun y H1 => ta σ H1 fun x H2 => nSet K f y x H2 (N σ)) := ⟨id⟩
theorem nSet_mk {f : Str} {C dx : Addr} {ns : List Str} {vs vs' : List V} {q : Hp → Prop} [hs : Hs F M H] [hm : Im M p (Ob C dx ns vs)] [cc : ClsF K C ns] [hi : Fx ns f n] [hv : Sl vs n y vs'] [hw : Sw M p (Ob C dx ns vs') M']
    (h : ∀ H', Hs F M' H' → q H') : nSet K f y (.ref p) H q :=
  ⟨p, C, dx, _, rfl, hs.im hm, cc.cl, cc.no f (List.mem_of_getElem? hi.h), zip_len cc.ln, by rw [fld_put cc.nd hi.h hv.lt, hv.h]; exact h _ (hs.sw hw)⟩
theorem nSet_new {f : Str} {C dx : Addr} {ns : List Str} {vs : List V} {q : Hp → Prop} [hs : Hs F M H] [hm : Im M p (Ob C dx ns vs)] [cc : ClsF K C ns] (hi : ns[vs.length]? = some f) [hw : Sw M p (Ob C dx ns (vs ++ [y])) M']
    (h : ∀ H', Hs F M' H' → q H') : nSet K f y (.ref p) H q :=
  ⟨p, C, dx, _, rfl, hs.im hm, cc.cl, cc.no f (List.mem_of_getElem? hi), zip_len cc.ln, by rw [fld_new cc.nd hi]; exact h _ (hs.sw hw)⟩
def nAugF (K : PySem.W.Frag) (f : Str) (x : V) (H : Hp) (tv : (V → Hp → Prop) → Prop) (rd : V → V → Hp → VK → Prop) (q : Hp → Prop) : Prop := ∃ a C dx fs v, x = .ref a ∧ H a = some (.ins C dx fs) ∧ Cls K C ∧ NoAttr K C f ∧ fs.lookup f = some v ∧
  tv fun y H2 => rd v y H2 fun z H3 => ∃ dx fs, H3 a = some (.ins C dx fs) ∧ fs.length < 1000 ∧ q (upd H3 a (.ins C dx (putF f z fs)))
-- a method's call
def nMeth (C : Addr) (m : Str) (x : V) (H : Hp) (q : Prop) : Prop := ∃ a dx fs, x = .ref a ∧ H a = some (.ins C dx fs) ∧ fs.lookup m = none ∧ q
instance {C : Addr} {m : Str} {sp : Sp} {dvs : List V} {E : XK} : St1 (tMeth C m sp dvs E ta tr σ H Q) (ta σ H fun x H1 => nMeth C m x H1 (tr σ H1 fun vs H2 => sp (x :: (vs ++ dvs)) H2 Q E)) := ⟨id⟩
instance {C dx : Addr} {m : Str} {ns : List Str} {vs : List V} {q : Prop} [hs : Hs F M H] [hm : Im M p (Ob C dx ns vs)] [hn : Nf ns m] : St1 (nMeth C m (.ref p) H q) q := ⟨fun h => ⟨p, dx, _, rfl, hs.im hm, fld_none hn.h, h⟩⟩
instance (priority := 900) {C dx : Addr} {m : Str} {ns : List Str} {vs : List V} {q : Prop} [hs : Hs F M H] [hm : Fz F p (Ob C dx ns vs)] [hn : Nf ns m] : St1 (nMeth C m (.ref p) H q) q := ⟨fun h => ⟨p, dx, _, rfl, hs.f hm.h, fld_none hn.h, h⟩⟩
-- items, lengths, truth
instance [hs : Hs F M H] [hm : Im M p (.lst xs)] [ha : At xs i v] : St1 (rIx K (.ref p) (.int i) H Q) (Q v H) := ⟨fun h => .inl ⟨p, xs, i, v, rfl, rfl, SqL.of (hs.im hm), ha.h, h⟩⟩
instance (priority := 900) [hs : Hs F M H] [hm : FzT K F p xs] [ha : At xs i v] : St1 (rIx K (.ref p) (.int i) H Q) (Q v H) := ⟨fun h => .inr (.inl ⟨p, xs, i, v, rfl, rfl, same_t hs.fz hm.h, ha.h, h⟩)⟩
instance (priority := 800) [hs : Hs F M H] [hm : FzL K F p xs] [ha : At xs i v] : St1 (rIx K (.ref p) (.int i) H Q) (Q v H) := ⟨fun h => .inl ⟨p, xs, i, v, rfl, rfl, same_l hs.fz hm.h, ha.h, h⟩⟩
instance {x : V} : St1 (rIx K x (.int (if true = true then i else j)) H Q) (rIx K x (.int i) H Q) := ⟨fun h => by rw [if_pos rfl]; exact h⟩
instance {x : V} : St1 (rIx K x (.int (if false = true then i else j)) H Q) (rIx K x (.int j) H Q) := ⟨fun h => by rw [if_neg Bool.false_ne_true]; exact h⟩
theorem nIxO [hs : Hs F M H] [hm : Im M p (.lst xs)] (ha : atI xs i = some v) (h : Q v H) : rIx K (.ref p) (.int i) H Q := .inl ⟨p, xs, i, v, rfl, rfl, SqL.of (hs.im hm), ha, h⟩
theorem nIxL [hs : Hs F M H] [hm : FzL K F p xs] (ha : atI xs i = some v) (h : Q v H) : rIx K (.ref p) (.int i) H Q := .inl ⟨p, xs, i, v, rfl, rfl, same_l hs.fz hm.h, ha, h⟩
theorem nIxT [hs : Hs F M H] [hm : FzT K F p xs] (ha : atI xs i = some v) (h : Q v H) : rIx K (.ref p) (.int i) H Q := .inr (.inl ⟨p, xs, i, v, rfl, rfl, same_t hs.fz hm.h, ha, h⟩)
theorem nIxS {z : Str} {c : Nat} (hl : z.length ≤ 16777216) (ha : atI z.cps.toList i = some c) (h : Q (.str ⟨#[c]⟩) H) : rIx K (.str z) (.int i) H Q := .inr (.inr ⟨z, i, c, rfl, rfl, sz hl, ha, h⟩)
instance [hs : Hs F M H] [hm : Im M p (.lst xs)] : St1 (rLn K [.ref p] H Q) (Q (.int (xs.length : Int)) H) := ⟨fun h => ⟨.ref p, _, rfl, .inl ⟨xs, SqL.of (hs.im hm), rfl⟩, h⟩⟩
instance (priority := 900) [hs : Hs F M H] [hm : FzT K F p xs] : St1 (rLn K [.ref p] H Q) (Q (.int (xs.length : Int)) H) := ⟨fun h => ⟨.ref p, _, rfl, .inr ⟨xs, same_t hs.fz hm.h, rfl⟩, h⟩⟩
instance (priority := 800) [hs : Hs F M H] [hm : FzL K F p xs] : St1 (rLn K [.ref p] H Q) (Q (.int (xs.length : Int)) H) := ⟨fun h => ⟨.ref p, _, rfl, .inl ⟨xs, same_l hs.fz hm.h, rfl⟩, h⟩⟩
theorem nLnS {z : Str} (hl : z.length ≤ 16777216) (h : Q (.int (z.length : Int)) H) : rLn K [.str z] H Q := ⟨.str z, _, rfl, ⟨sz hl, rfl⟩, h⟩
def nTru (K : PySem.W.Frag) (x : V) (H : Hp) (q : Bool → Prop) : Prop := ∃ k, TruV K x H k ∧ q k
instance : St1 (tTru K ta σ H QB) (ta σ H fun x H' => nTru K x H' fun k => QB k H') := ⟨id⟩
class Ie (xs : List V) (b : outParam Bool) : Prop where
  h : (!xs.isEmpty) = b
instance : Ie [] false := ⟨rfl⟩
instance {v : V} : Ie (v :: xs) true := ⟨rfl⟩
instance {v : V} : Ie (xs ++ [v]) true := ⟨by cases xs <;> rfl⟩
instance (priority := 10) : Ie xs (!xs.isEmpty) := ⟨rfl⟩
instance [hs : Hs F M H] [hm : Im M p (.lst xs)] [e : Ie xs c] : St1 (nTru K (.ref p) H q) (q c) := ⟨fun h => ⟨_, .inl ⟨xs, SqL.of (hs.im hm), rfl⟩, by rw [e.h]; exact h⟩⟩
instance (priority := 900) [hs : Hs F M H] [hm : FzT K F p xs] [e : Ie xs c] : St1 (nTru K (.ref p) H q) (q c) := ⟨fun h => ⟨_, .inr (.inl ⟨xs, same_t hs.fz hm.h, rfl⟩), by rw [e.h]; exact h⟩⟩
instance (priority := 800) [hs : Hs F M H] [hm : FzL K F p xs] [e : Ie xs c] : St1 (nTru K (.ref p) H q) (q c) := ⟨fun h => ⟨_, .inl ⟨xs, same_l hs.fz hm.h, rfl⟩, by rw [e.h]; exact h⟩⟩
instance : St1 (nTru K (.int i) H q) (q (i != 0)) := ⟨fun h => ⟨_, rfl, h⟩⟩
instance : St1 (nTru K (.bl c) H q) (q c) := ⟨fun h => ⟨_, rfl, h⟩⟩
instance : St1 (nTru K .non H q) (q false) := ⟨fun h => ⟨_, rfl, h⟩⟩
-- list(..), tuple(..)
theorem nTupleOfO [hs : Hs F M H] [hm : Im M p (.lst xs)] (h : ∀ q F' H', F q = none → Sm F F' → Hs F' M H' → FzT K F' q xs → Fz F' q (.tup xs) → Q (.ref q) H') : rTupleOf K [.ref p] H Q :=
  ⟨p, xs, rfl, .inl ⟨SqL.of (hs.im hm), fun q hq => h q _ _ (hs.free hq) ⟨same_upd (hs.free hq)⟩ (hs.newF hq) (.of upd_same) ⟨upd_same⟩⟩⟩
theorem nTupleOfL [hs : Hs F M H] [hm : FzL K F p xs] (h : ∀ q F' H', F q = none → Sm F F' → Hs F' M H' → FzT K F' q xs → Fz F' q (.tup xs) → Q (.ref q) H') : rTupleOf K [.ref p] H Q :=
  ⟨p, xs, rfl, .inl ⟨same_l hs.fz hm.h, fun q hq => h q _ _ (hs.free hq) ⟨same_upd (hs.free hq)⟩ (hs.newF hq) (.of upd_same) ⟨upd_same⟩⟩⟩
theorem nTupleOfT [hs : Hs F M H] [hm : FzT K F p xs] (h : Q (.ref p) H) : rTupleOf K [.ref p] H Q := ⟨p, xs, rfl, .inr ⟨same_t hs.fz hm.h, h⟩⟩
theorem nListOfO [hs : Hs F M H] [hm : Im M p (.lst xs)] (h : ∀ q H', F q = none → Hs F ((q, .lst xs) :: M) H' → Q (.ref q) H') : rListOf K [.ref p] H Q := ⟨p, xs, rfl, .inl (SqL.of (hs.im hm)), fun q hq => h q _ (hs.free hq) (hs.new hq)⟩
theorem nListOfL [hs : Hs F M H] [hm : FzL K F p xs] (h : ∀ q H', F q = none → Hs F ((q, .lst xs) :: M) H' → Q (.ref q) H') : rListOf K [.ref p] H Q := ⟨p, xs, rfl, .inl (same_l hs.fz hm.h), fun q hq => h q _ (hs.free hq) (hs.new hq)⟩
theorem nListOfT [hs : Hs F M H] [hm : FzT K F p xs] (h : ∀ q H', F q = none → Hs F ((q, .lst xs) :: M) H' → Q (.ref q) H') : rListOf K [.ref p] H Q := ⟨p, xs, rfl, .inr (same_t hs.fz hm.h), fun q hq => h q _ (hs.free hq) (hs.new hq)⟩
-- list methods
def nTy (K : PySem.W.Frag) (T : String) (x : V) (H : Hp) (q : Prop) : Prop := tyV K T x H ∧ q
instance {T : String} {r : V → List V → Hp → VK → Prop} : St1 (tBM K T r ta tr σ H Q) (ta σ H fun x H1 => nTy K T x H1 (tr σ H1 fun xs H2 => r x xs H2 Q)) := ⟨id⟩
instance {T : String} {r : V → List V → Hp → VK → Prop} : St1 (tBM0 K T r ta σ H Q) (ta σ H fun x H1 => nTy K T x H1 (r x [] H1 Q)) := ⟨id⟩
instance {q : Prop} [hs : Hs F M H] [hm : Im M p (.lst xs)] : St1 (nTy K "list" (.ref p) H q) q := ⟨fun h => ⟨.inl ⟨rfl, _, SqL.of (hs.im hm)⟩, h⟩⟩
theorem nAppend [hs : Hs F M H] [hm : Im M p (.lst xs)] [hw : Sw M p (.lst (xs ++ [y])) M'] (hl : xs.length < 16777216) (h : ∀ H', Hs F M' H' → Q .non H') : rAppend (.ref p) [y] H Q :=
  ⟨p, xs, y, rfl, rfl, hs.im hm, szl hl, h _ (hs.sw hw)⟩
theorem nExtend {b : Addr} {zs : List V} [hs : Hs F M H] [hm : Im M p (.lst xs)] [hb : Im M b (.lst zs)] [hw : Sw M p (.lst (xs ++ zs)) M'] (hl : xs.length + zs.length ≤ 16777216) (h : ∀ H', Hs F M' H' → Q .non H') : rExtend (.ref p) [.ref b] H Q :=
  ⟨p, b, xs, zs, rfl, rfl, hs.im hm, hs.im hb, sz hl, h _ (hs.sw hw)⟩
theorem nExtendF {b : Addr} {zs : List V} [hs : Hs F M H] [hm : Im M p (.lst xs)] [hb : Fz F b (.lst zs)] [hw : Sw M p (.lst (xs ++ zs)) M'] (hl : xs.length + zs.length ≤ 16777216) (h : ∀ H', Hs F M' H' → Q .non H') : rExtend (.ref p) [.ref b] H Q :=
  ⟨p, b, xs, zs, rfl, rfl, hs.im hm, hs.f hb.h, sz hl, h _ (hs.sw hw)⟩
theorem nPop [hs : Hs F M H] [hm : Im M p (.lst (xs ++ [y]))] [hw : Sw M p (.lst xs) M'] (h : ∀ H', Hs F M' H' → Q y H') : rPop (.ref p) [] H Q :=
  ⟨p, _, y, rfl, rfl, hs.im hm, by simp, by rw [List.dropLast_concat]; exact h _ (hs.sw hw)⟩
theorem nReverse [hs : Hs F M H] [hm : Im M p (.lst xs)] [hw : Sw M p (.lst xs.reverse) M'] (h : ∀ H', Hs F M' H' → Q .non H') : rReverse (.ref p) [] H Q := ⟨p, _, rfl, rfl, hs.im hm, h _ (hs.sw hw)⟩
/-- xs[i] = y, i written -/
class Sa (xs : List V) (i : Int) (y : V) (ys : outParam (List V)) : Prop where
  h : ∃ j, ixN xs.length i = some j ∧ xs.set j y = ys
theorem saN {xs ys : List V} {n : Nat} {y : V} (l : Sl xs n y ys) : Sa xs (n : Int) y ys := ⟨n, by unfold ixN; rw [if_pos (by omega), if_pos (by have := l.lt; omega)]; simp, l.h⟩
instance [l : Sl xs 0 y ys] : Sa xs 0 y ys := saN l
instance [l : Sl xs 1 y ys] : Sa xs 1 y ys := saN l
instance [l : Sl xs 2 y ys] : Sa xs 2 y ys := saN l
instance [l : Sl xs 3 y ys] : Sa xs 3 y ys := saN l
instance {z : V} : Sa (xs ++ [z]) (-1) y (xs ++ [y]) := ⟨xs.length, by unfold ixN; rw [if_neg (by omega), if_pos (by simp; omega)]; simp; omega, by rw [List.set_append_right _ _ (Nat.le_refl _), Nat.sub_self]; rfl⟩
theorem nSetL {q : Hp → Prop} [hs : Hs F M H] [hm : Im M p (.lst xs)] [hj : Sa xs i y ys] [hw : Sw M p (.lst ys) M'] (h : ∀ H', Hs F M' H' → q H') : rSetL (.ref p) (.int i) y H q := by
  obtain ⟨j, h1, h2⟩ := hj.h
  exact ⟨p, xs, i, j, rfl, rfl, hs.im hm, h1, by rw [h2]; exact h _ (hs.sw hw)⟩
theorem nSetI {j : Nat} {q : Hp → Prop} [hs : Hs F M H] [hm : Im M p (.lst xs)] (hi : i = (j : Int)) (hj : j < xs.length) [hw : Sw M p (.lst (xs.set j y)) M'] (h : ∀ H', Hs F M' H' → q H') : rSetL (.ref p) (.int i) y H q :=
  ⟨p, xs, i, j, rfl, rfl, hs.im hm, by rw [hi]; unfold ixN; rw [if_pos (by omega), if_pos (by omega)]; simp, h _ (hs.sw hw)⟩
-- slices
instance {r : V → Option Int → Option Int → Hp → VK → Prop} {tl th : TO} : St1 (tSl r te tl th σ H Q) (te σ H fun x H1 => tl σ H1 fun l H2 => th σ H2 fun u H3 => r x l u H3 Q) := ⟨id⟩
instance {QO : Option Int → Hp → Prop} : St1 (tNoPart σ H QO) (QO none H) := ⟨id⟩
def nInt (x : V) (q : Int → Prop) : Prop := ∃ i, x = .int i ∧ q i
instance {q : Int → Prop} : St1 (nInt (.int i) q) (q i) := ⟨fun h => ⟨i, rfl, h⟩⟩
instance {QO : Option Int → Hp → Prop} : St1 (tPart te σ H QO) (te σ H fun x H1 => nInt x fun i => QO (some i) H1) := ⟨id⟩
-- statements
instance : St1 (tSeq t1 t2 (En N R B C) σ H) (t1 (En (t2 (En N R B C)) R B C) σ H) := ⟨id⟩
instance : St1 (tNext (En N R B C) σ H) (N σ H) := ⟨id⟩
instance : St1 (tBreak (En N R B C) σ H) (B σ H) := ⟨id⟩
instance : St1 (tCont (En N R B C) σ H) (C σ H) := ⟨id⟩
instance : St1 (tDrop te (En N R B C) σ H) (te σ H fun _ H1 => N σ H1) := ⟨id⟩
instance : St1 (tRet te (En N R B C) σ H) (te σ H R) := ⟨id⟩
instance : St1 (tRetN (En N R B C) σ H) (R .non H) := ⟨id⟩
instance : St1 (tIfS tt t1 t2 (En N R B C) σ H) (tt σ H fun b H1 => if b = true then t1 (En N R B C) σ H1 else t2 (En N R B C) σ H1) := ⟨id⟩
instance : St1 (tAsg te g (En N R B C) σ H) (te σ H fun x H1 => g x σ H1 N) := ⟨id⟩
instance [e : Ss σ n (some x) σ'] : St1 (gName n x σ H N) (N σ' H) := ⟨fun h => by show N (σ.set n (some x)) H; rw [e.h]; exact h⟩
instance {to ti : TE} {tset : TSet} : St1 (gSub to ti tset x σ H N) (to σ H fun o H1 => ti σ H1 fun i H2 => tset o i x H2 fun H3 => N σ H3) := ⟨id⟩
theorem gT [hs : Hs F M H] [hm : FzT K F p xs] (hl : xs.length = n) (h : gs xs σ H N) : gTup K n gs (.ref p) σ H N := ⟨p, xs, rfl, same_t hs.fz hm.h, hl, h⟩
class Ln {α : Type} (xs : List α) (n : Nat) : Prop where
  h : xs.length = n
instance {α : Type} : Ln ([] : List α) 0 := ⟨rfl⟩
instance {α : Type} {x : α} {xs : List α} {n : Nat} [l : Ln xs n] : Ln (x :: xs) (n + 1) := ⟨by rw [List.length_cons, l.h]⟩
instance [hs : Hs F M H] [hm : FzT K F p xs] [hl : Ln xs n] : St1 (gTup K n gs (.ref p) σ H N) (gs xs σ H N) := ⟨gT hl.h⟩
instance : St1 (gCons g gs (x :: xs) σ H N) (g x σ H fun σ' H' => gs xs σ' H' N) := ⟨fun h => ⟨x, xs, rfl, h⟩⟩
instance : St1 (gNil [] σ H N) (N σ H) := ⟨fun h => ⟨rfl, h⟩⟩
instance {f : Int → Int → Int} [l : Lk σ n (.int i)] : St1 (tAug n te (ipI f) (En N R B C) σ H) (te σ H fun y H1 => nInt y fun k => gName n (.int (f i k)) σ H1 N) :=
  ⟨fun h => ⟨.int i, l.h, by
    have e : (fun y H1 => nInt y fun k => gName n (V.int (f i k)) σ H1 N) = fun y H1 => ipI f (V.int i) y H1 fun z H2 => N (σ.set n (some z)) H2 := by
      funext y H1
      apply propext
      constructor
      · rintro ⟨k, rfl, h⟩; exact ⟨i, k, rfl, rfl, h⟩
      · rintro ⟨i', k, e1, rfl, h⟩; cases e1; exact ⟨k, rfl, h⟩
    rw [e] at h; exact h⟩⟩
def nPar (n k : Nat) (vs : List V) (σ : L2.St) (H : Hp) (N : L2.St → Hp → Prop) : Prop := ∃ v w, vs = [v, w] ∧ N ((σ.set n (some v)).set k (some w)) H
instance : St1 (tPar n k tr (En N R B C) σ H) (tr σ H fun vs H1 => nPar n k vs σ H1 N) := ⟨id⟩
instance {σ'' : L2.St} [e : Ss σ n (some x) σ'] [e2 : Ss σ' k (some y) σ''] : St1 (nPar n k [x, y] σ H N) (N σ'' H) := ⟨fun h => ⟨x, y, rfl, by rw [e.h, e2.h]; exact h⟩⟩
-- a cut: what follows is shown once, from Mid
theorem cutI {I : L2.St → Hp → Ow → Prop} [hs : Hs F M H] (h1 : t1 (En (fun σ' H' => ∃ F' M', Same F F' ∧ Hs F' M' H' ∧ I σ' F' M') R B C) σ H) (h2 : ∀ σ' F' M' H', Sm F F' → Hs F' M' H' → I σ' F' M' → t2 (En N R B C) σ' H') : Evl.tCut t1 t2 (En N R B C) σ H :=
  ⟨_, h1, fun σ' H' ⟨F', M', e, hs', p⟩ => h2 σ' F' M' H' ⟨e⟩ hs' p⟩
-- ifs
theorem ifP {p A B : Prop} [Decidable p] (h1 : p → A) (h2 : ¬ p → B) : if decide p = true then A else B := by
  by_cases hp : p
  · rw [if_pos (decide_eq_true hp)]; exact h1 hp
  · rw [if_neg (by rw [decide_eq_false hp]; decide)]; exact h2 hp
theorem ifN {p A B : Prop} [Decidable p] (h1 : ¬ p → A) (h2 : p → B) : if (!decide p) = true then A else B := by
  by_cases hp : p
  · rw [if_neg (by rw [decide_eq_true hp]; decide)]; exact h2 hp
  · rw [if_pos (by rw [decide_eq_false hp]; decide)]; exact h1 hp
theorem ifPT {p A B : Prop} [Decidable p] (hp : p) (h : A) : if decide p = true then A else B := by rw [if_pos (decide_eq_true hp)]; exact h
theorem ifPF {p A B : Prop} [Decidable p] (hp : ¬ p) (h : B) : if decide p = true then A else B := by rw [if_neg (by rw [decide_eq_false hp]; decide)]; exact h
theorem ifNT {p A B : Prop} [Decidable p] (hp : ¬ p) (h : A) : if (!decide p) = true then A else B := by rw [if_pos (by rw [decide_eq_false hp]; decide)]; exact h
theorem ifNF {p A B : Prop} [Decidable p] (hp : p) (h : B) : if (!decide p) = true then A else B := by rw [if_neg (by rw [decide_eq_true hp]; decide)]; exact h
theorem ifB {b : Bool} {A B : Prop} (h1 : b = true → A) (h2 : b = false → B) : if b = true then A else B := by
  cases b with
  | true => rw [if_pos rfl]; exact h1 rfl
  | false => rw [if_neg Bool.false_ne_true]; exact h2 rfl
end

/-! ### loops -/
section
variable {K : PySem.W.Frag} {σ : L2.St} {H F : Hp} {M : Ow} {g : TG} {tb : TS} {a : Addr} {xs : List V} {N B C : L2.St → Hp → Prop} {R : VK} {te : TE} {tr : TA} {tt : TT}
/-- what holds between two turns, over what is frozen and owned then -/
abbrev Iv := L2.St → Hp → Ow → Prop
def IvH (F : Hp) (I : Iv) : L2.St → Hp → Prop := fun σ H => ∃ F' M', Same F F' ∧ Hs F' M' H ∧ I σ F' M'
theorem IvH.mk {F F' : Hp} {M' : Ow} {I : Iv} (e : Same F F') (hs : Hs F' M' H) (h : I σ F' M') : IvH F I σ H := ⟨F', M', e, hs, h⟩
def nLoop (g : TG) (tb : TS) (N : L2.St → Hp → Prop) (R : VK) (σ : L2.St) (J : It) (H1 : Hp) : Prop := ∃ W : Nat → Nat → L2.St → Hp → Prop, (∃ m, W 0 m σ H1) ∧ ∀ i m σ H, W i m σ H →
  (J.stop i H ∧ N σ H) ∨ (J.go i H ∧ ∃ Nx : L2.St → Hp → Prop, (∀ σ' H', Nx σ' H' → ∃ m', m' < m ∧ W (i + 1) m' σ' H') ∧ ∀ x H', J.yld i H x H' → g x σ H' fun σ2 H2 => tb (En Nx R N Nx) σ2 H2)
def nRng1 (vs : List V) (H : Hp) (q : It → Hp → Prop) : Prop := ∃ j : Int, vs = [.int j] ∧ -(2 ^ 62) ≤ j ∧ j < 2 ^ 62 ∧ q (Itr 0 j.toNat) H
def nRng2 (vs : List V) (H : Hp) (q : It → Hp → Prop) : Prop := ∃ i j : Int, vs = [.int i, .int j] ∧ (-(2 ^ 62) ≤ i ∧ i < 2 ^ 62 ∧ -(2 ^ 62) ≤ j ∧ j < 2 ^ 62) ∧ q (Itr i (j - i).toNat) H
theorem nRng1_mk {j : Int} {q : It → Hp → Prop} (h1 : -4611686018427387904 ≤ j) (h2 : j < 4611686018427387904) (h : q (Itr 0 j.toNat) H) : nRng1 [.int j] H q := ⟨j, rfl, h1, h2, h⟩
theorem nRng2_mk {i j : Int} {q : It → Hp → Prop} (h1 : -4611686018427387904 ≤ i) (h2 : i < 4611686018427387904) (h3 : -4611686018427387904 ≤ j) (h4 : j < 4611686018427387904) (h : q (Itr i (j - i).toNat) H) : nRng2 [.int i, .int j] H q := ⟨i, j, rfl, ⟨h1, h2, h3, h4⟩, h⟩
def nSeqL (K : PySem.W.Frag) (x : V) (H1 : Hp) (q : It → Hp → Prop) : Prop := ∃ a, x = .ref a ∧ (∃ xs, SqL K H1 a xs) ∧ q (Itl K a) H1
def nSeqT (K : PySem.W.Frag) (x : V) (H1 : Hp) (q : It → Hp → Prop) : Prop := ∃ a, x = .ref a ∧ (∃ xs, SqT K H1 a xs) ∧ q (Itt K a) H1
instance : St1 (tFor (iRng1 tr) g tb (En N R B C) σ H) (tr σ H fun vs H1 => nRng1 vs H1 fun J H1 => nLoop g tb N R σ J H1) := ⟨id⟩
instance : St1 (tFor (iRng2 tr) g tb (En N R B C) σ H) (tr σ H fun vs H1 => nRng2 vs H1 fun J H1 => nLoop g tb N R σ J H1) := ⟨id⟩
instance : St1 (tFor (iList K te) g tb (En N R B C) σ H) (te σ H fun x H1 => nSeqL K x H1 fun J H1 => nLoop g tb N R σ J H1) := ⟨id⟩
instance : St1 (tFor (iTup K te) g tb (En N R B C) σ H) (te σ H fun x H1 => nSeqT K x H1 fun J H1 => nLoop g tb N R σ J H1) := ⟨id⟩
theorem nLoopR {lo : Int} {n : Nat} (I : Nat → Iv) [hs : Hs F M H] (h0 : I 0 σ F M)
    (step : ∀ (i : Nat) σ' F' M' H', i < n → Sm F F' → Hs F' M' H' → I i σ' F' M' → g (.int (lo + i)) σ' H' fun σ2 H2 => tb (En (IvH F (I (i + 1))) R N (IvH F (I (i + 1)))) σ2 H2)
    (done : ∀ σ' F' M' H', Sm F F' → Hs F' M' H' → I n σ' F' M' → N σ' H') : nLoop g tb N R σ (Itr lo n) H :=
  for_range (D := En N R N N) (lo := lo) (n := n) (fun i => IvH F (I i)) ⟨F, M, Same.refl F, hs, h0⟩ (fun i σ' H' hi ⟨F', M', e, hs', p⟩ => step i σ' F' M' H' hi ⟨e⟩ hs' p) (fun σ' H' ⟨F', M', e, hs', p⟩ => done σ' F' M' H' ⟨e⟩ hs' p)
theorem nLoopL (I : Nat → Iv) [hs : Hs F M H] [hx : FzL K F a xs] (h0 : I 0 σ F M)
    (step : ∀ i x σ' F' M' H', xs[i]? = some x → Sm F F' → Hs F' M' H' → I i σ' F' M' → g x σ' H' fun σ2 H2 => tb (En (IvH F (I (i + 1))) R N (IvH F (I (i + 1)))) σ2 H2)
    (done : ∀ σ' F' M' H', Sm F F' → Hs F' M' H' → I xs.length σ' F' M' → N σ' H') : nSeqL K (.ref a) H fun J H1 => nLoop g tb N R σ J H1 :=
  ⟨a, rfl, ⟨xs, same_l hs.fz hx.h⟩, for_list (D := En N R N N) (K := K) (a := a) (xs := xs) (fun i => IvH F (I i)) ⟨F, M, Same.refl F, hs, h0⟩ (fun i σ' H' _ ⟨F', M', e, hs', _⟩ => same_l hs'.fz (same_l e hx.h))
    (fun i x σ' H' hi ⟨F', M', e, hs', p⟩ => step i x σ' F' M' H' hi ⟨e⟩ hs' p) (fun σ' H' ⟨F', M', e, hs', p⟩ => done σ' F' M' H' ⟨e⟩ hs' p)⟩
theorem nLoopT (I : Nat → Iv) [hs : Hs F M H] [hx : FzT K F a xs] (h0 : I 0 σ F M)
    (step : ∀ i x σ' F' M' H', xs[i]? = some x → Sm F F' → Hs F' M' H' → I i σ' F' M' → g x σ' H' fun σ2 H2 => tb (En (IvH F (I (i + 1))) R N (IvH F (I (i + 1)))) σ2 H2)
    (done : ∀ σ' F' M' H', Sm F F' → Hs F' M' H' → I xs.length σ' F' M' → N σ' H') : nSeqT K (.ref a) H fun J H1 => nLoop g tb N R σ J H1 :=
  ⟨a, rfl, ⟨xs, same_t hs.fz hx.h⟩, for_tup (D := En N R N N) (K := K) (a := a) (xs := xs) (fun i => IvH F (I i)) ⟨F, M, Same.refl F, hs, h0⟩ (fun i σ' H' _ ⟨F', M', e, hs', _⟩ => same_t hs'.fz (same_t e hx.h))
    (fun i x σ' H' hi ⟨F', M', e, hs', p⟩ => step i x σ' F' M' H' hi ⟨e⟩ hs' p) (fun σ' H' ⟨F', M', e, hs', p⟩ => done σ' F' M' H' ⟨e⟩ hs' p)⟩
/-- over an owned list that no turn changes -/
theorem nLoopO (I : Nat → Iv) [hs : Hs F M H] [hx : Im M a (.lst xs)] (h0 : I 0 σ F M) (hk : ∀ i σ' F' M', I i σ' F' M' → Im M' a (.lst xs))
    (step : ∀ i x σ' F' M' H', xs[i]? = some x → Sm F F' → Hs F' M' H' → I i σ' F' M' → g x σ' H' fun σ2 H2 => tb (En (IvH F (I (i + 1))) R N (IvH F (I (i + 1)))) σ2 H2)
    (done : ∀ σ' F' M' H', Sm F F' → Hs F' M' H' → I xs.length σ' F' M' → N σ' H') : nSeqL K (.ref a) H fun J H1 => nLoop g tb N R σ J H1 :=
  ⟨a, rfl, ⟨xs, SqL.of (hs.im hx)⟩, for_list (D := En N R N N) (K := K) (a := a) (xs := xs) (fun i => IvH F (I i)) ⟨F, M, Same.refl F, hs, h0⟩ (fun i σ' H' _ ⟨F', M', e, hs', p⟩ => SqL.of (hs'.im (hk i σ' F' M' p)))
    (fun i x σ' H' hi ⟨F', M', e, hs', p⟩ => step i x σ' F' M' H' hi ⟨e⟩ hs' p) (fun σ' H' ⟨F', M', e, hs', p⟩ => done σ' F' M' H' ⟨e⟩ hs' p)⟩
/-- while: the word, what falls; the test's reading goes on with whatever is wanted of its answer -/
def WvH (F : Hp) (I : Nat → Iv) (m : Nat) : L2.St → Hp → Prop := fun σ H => ∃ m' F' M', m' < m ∧ Same F F' ∧ Hs F' M' H ∧ I m' σ F' M'
theorem WvH.mk {F F' : Hp} {M' : Ow} {I : Nat → Iv} {m m' : Nat} (l : m' < m) (e : Same F F') (hs : Hs F' M' H) (h : I m' σ F' M') : WvH F I m σ H := ⟨m', F', M', l, e, hs, h⟩
/-- the two ways of a while's test -/
structure WhB (tb : TS) (N : L2.St → Hp → Prop) (R : VK) (Nx : L2.St → Hp → Prop) (σ : L2.St) (b : Bool) (H1 : Hp) : Prop where
  yes : b = true → tb (En Nx R N Nx) σ H1
  no : b = false → N σ H1
def nWh (tb : TS) (N : L2.St → Hp → Prop) (R : VK) (q : (L2.St → Hp → Prop) → Prop) (σ : L2.St) (b : Bool) (H1 : Hp) : Prop := if b = true then ∃ Nx : L2.St → Hp → Prop, q Nx ∧ tb (En Nx R N Nx) σ H1 else N σ H1
theorem whileI (I : Nat → Iv) (m : Nat) [hs : Hs F M H] (h0 : I m σ F M)
    (step : ∀ m σ' F' M' H', Sm F F' → Hs F' M' H' → I m σ' F' M' → tt σ' H' fun b H1 => nWh tb N R (fun Nx => ∀ σ2 H2, Nx σ2 H2 → ∃ m', m' < m ∧ ∃ F' M', Same F F' ∧ Hs F' M' H2 ∧ I m' σ2 F' M') σ' b H1) : tWhile tt tb (En N R B C) σ H :=
  ⟨fun m σ H => ∃ F' M', Same F F' ∧ Hs F' M' H ∧ I m σ F' M', ⟨m, F, M, Same.refl F, hs, h0⟩, fun m σ H ⟨F', M', e, hs', p⟩ => step m σ F' M' H ⟨e⟩ hs' p⟩
theorem whY {I : Nat → Iv} {m : Nat} (h : tb (En (WvH F I m) R N (WvH F I m)) σ H) : nWh tb N R (fun Nx => ∀ σ2 H2, Nx σ2 H2 → ∃ m', m' < m ∧ ∃ F' M', Same F F' ∧ Hs F' M' H2 ∧ I m' σ2 F' M') σ true H := by
  unfold nWh
  rw [if_pos rfl]
  exact ⟨WvH F I m, fun σ2 H2 ⟨m', F', M', l, r⟩ => ⟨m', l, F', M', r⟩, h⟩
theorem whN {q : (L2.St → Hp → Prop) → Prop} (h : N σ H) : nWh tb N R q σ false H := by
  unfold nWh
  rw [if_neg Bool.false_ne_true]
  exact h
theorem whP {I : Nat → Iv} {m : Nat} {p : Prop} [Decidable p] (h1 : p → tb (En (WvH F I m) R N (WvH F I m)) σ H) (h2 : ¬ p → N σ H) :
    nWh tb N R (fun Nx => ∀ σ2 H2, Nx σ2 H2 → ∃ m', m' < m ∧ ∃ F' M', Same F F' ∧ Hs F' M' H2 ∧ I m' σ2 F' M') σ (decide p) H := by
  by_cases hp : p
  · rw [decide_eq_true hp]; exact whY (h1 hp)
  · rw [decide_eq_false hp]; exact whN (h2 hp)
end
/-! ### list comprehensions -/
section
variable {K : PySem.W.Frag} {σ : L2.St} {H F : Hp} {M : Ow} {Q : VK} {g : TG} {tt : TT} {te tl : TE} {tr : TA} {vs : List Nat} {a D : Addr} {xs acc : List V} {y : V}
def nComp (g : TG) (tt : TT) (te : TE) (vs : List Nat) (σ : L2.St) (Q : VK) (J : It) (H1 : Hp) : Prop := ∀ D, H1 D = none → ∃ W : Nat → Nat → Hp → Prop, (∃ m, W 0 m (upd H1 D (.lst []))) ∧ ∀ i m H, W i m H →
  (J.stop i H ∧ Q (.ref D) H) ∨ (J.go i H ∧ ∃ Nx : Hp → Prop, (∀ H', Nx H' → ∃ m', m' < m ∧ W (i + 1) m' H') ∧ ∀ x H', J.yld i H x H' → g x (wipe σ vs) H' fun σ2 H2 => wipe σ2 vs = wipe σ vs ∧ tt σ2 H2 fun b H3 =>
    if b = true then te σ2 H3 fun y H4 => ∃ acc, H4 D = some (.lst acc) ∧ acc.length < sizeLine ∧ Nx (upd H4 D (.lst (acc ++ [y]))) else Nx H3)
instance : St1 (tLc (iList K tl) g tt te vs σ H Q) (tl σ H fun x H1 => nSeqL K x H1 fun J H1 => nComp g tt te vs σ Q J H1) := ⟨id⟩
instance : St1 (tLc (iTup K tl) g tt te vs σ H Q) (tl σ H fun x H1 => nSeqT K x H1 fun J H1 => nComp g tt te vs σ Q J H1) := ⟨id⟩
instance : St1 (tLc (iRng1 tr) g tt te vs σ H Q) (tr σ H fun ws H1 => nRng1 ws H1 fun J H1 => nComp g tt te vs σ Q J H1) := ⟨id⟩
instance : St1 (tLc (iRng2 tr) g tt te vs σ H Q) (tr σ H fun ws H1 => nRng2 ws H1 fun J H1 => nComp g tt te vs σ Q J H1) := ⟨id⟩
/-- between two turns: the list so far at D -/
abbrev Cv := List V → Hp → Ow → Prop
def CvH (F : Hp) (D : Addr) (I : Cv) : Hp → Prop := fun H => ∃ F' M' acc, Same F F' ∧ Hs F' ((D, HO.lst acc) :: M') H ∧ I acc F' M'
def CvP (F : Hp) (D : Addr) (I : Cv) (y : V) : Hp → Prop := fun H => ∃ acc, H D = some (.lst acc) ∧ acc.length < sizeLine ∧ CvH F D I (upd H D (.lst (acc ++ [y])))
theorem CvH.mk {F F' : Hp} {M' : Ow} {I : Cv} (e : Same F F') (hs : Hs F' ((D, HO.lst acc) :: M') H) (h : I acc F' M') : CvH F D I H := ⟨F', M', acc, e, hs, h⟩
theorem CvP.mk {F F' : Hp} {M' : Ow} {I : Cv} (e : Same F F') (hs : Hs F' ((D, HO.lst acc) :: M') H) (hl : acc.length < 16777216) (h : I (acc ++ [y]) F' M') : CvP F D I y H :=
  ⟨acc, hs.at (j := 0) rfl, szl hl, F', M', _, e, hs.set (j := 0) rfl, h⟩
/-- the slots wiped -/
class Wp (σ : L2.St) (vs : List Nat) (σw : outParam L2.St) : Prop where
  h : wipe σ vs = σw
instance {σ : L2.St} : Wp σ [] σ := ⟨rfl⟩
instance {σ σ1 σ2 : L2.St} {v : Nat} {vs : List Nat} [a : Wp σ vs σ1] [b : Ss σ1 v none σ2] : Wp σ (v :: vs) σ2 := ⟨by unfold wipe; rw [a.h, b.h]⟩
def nWp (vs : List Nat) (σ2 σw : L2.St) (q : Prop) : Prop := wipe σ2 vs = σw ∧ q
instance {σ2 σw : L2.St} {q : Prop} [a : Wp σ2 vs σw] : St1 (nWp vs σ2 σw q) q := ⟨fun h => ⟨a.h, h⟩⟩
/-- a turn of a comprehension: the target, the test, the element -/
abbrev CvT (g : TG) (tt : TT) (te : TE) (vs : List Nat) (σw : L2.St) (F : Hp) (D : Addr) (I : Cv) (x : V) (H' : Hp) : Prop :=
  g x σw H' fun σ2 H2 => nWp vs σ2 σw (tt σ2 H2 fun b H3 => if b = true then te σ2 H3 fun y H4 => CvP F D I y H4 else CvH F D I H3)
theorem nCompL {σw : L2.St} (I : Nat → Cv) [hs : Hs F M H] [hw : Wp σ vs σw] [hx : FzL K F a xs] (h0 : I 0 [] F M)
    (step : ∀ i x acc D F' M' H', xs[i]? = some x → Sm F F' → Hs F' ((D, HO.lst acc) :: M') H' → I i acc F' M' → CvT g tt te vs σw F D (I (i + 1)) x H')
    (done : ∀ D acc F' M' H', F D = none → Sm F F' → Hs F' ((D, HO.lst acc) :: M') H' → I xs.length acc F' M' → Q (.ref D) H') : nSeqL K (.ref a) H fun J H1 => nComp g tt te vs σ Q J H1 :=
  ⟨a, rfl, ⟨xs, same_l hs.fz hx.h⟩, fun D hD => lc_list (K := K) (a := a) (xs := xs) (fun i => CvH F D (I i)) ⟨F, M, [], Same.refl F, hs.new hD, h0⟩ (fun i H' _ ⟨F', M', acc, e, hs', p⟩ => same_l hs'.fz (same_l e hx.h))
    (fun i x H' hi ⟨F', M', acc, e, hs', p⟩ => by have := step i x acc D F' M' H' hi ⟨e⟩ hs' p; rw [← hw.h] at this; exact this) (fun H' ⟨F', M', acc, e, hs', p⟩ => done D acc F' M' H' (hs.free hD) ⟨e⟩ hs' p)⟩
theorem nCompT {σw : L2.St} (I : Nat → Cv) [hs : Hs F M H] [hw : Wp σ vs σw] [hx : FzT K F a xs] (h0 : I 0 [] F M)
    (step : ∀ i x acc D F' M' H', xs[i]? = some x → Sm F F' → Hs F' ((D, HO.lst acc) :: M') H' → I i acc F' M' → CvT g tt te vs σw F D (I (i + 1)) x H')
    (done : ∀ D acc F' M' H', F D = none → Sm F F' → Hs F' ((D, HO.lst acc) :: M') H' → I xs.length acc F' M' → Q (.ref D) H') : nSeqT K (.ref a) H fun J H1 => nComp g tt te vs σ Q J H1 :=
  ⟨a, rfl, ⟨xs, same_t hs.fz hx.h⟩, fun D hD => lc_tup (K := K) (a := a) (xs := xs) (fun i => CvH F D (I i)) ⟨F, M, [], Same.refl F, hs.new hD, h0⟩ (fun i H' _ ⟨F', M', acc, e, hs', p⟩ => same_t hs'.fz (same_t e hx.h))
    (fun i x H' hi ⟨F', M', acc, e, hs', p⟩ => by have := step i x acc D F' M' H' hi ⟨e⟩ hs' p; rw [← hw.h] at this; exact this) (fun H' ⟨F', M', acc, e, hs', p⟩ => done D acc F' M' H' (hs.free hD) ⟨e⟩ hs' p)⟩
theorem nCompO {σw : L2.St} (I : Nat → Cv) [hs : Hs F M H] [hw : Wp σ vs σw] [hx : Im M a (.lst xs)] (h0 : I 0 [] F M) (hk : ∀ i acc F' M', I i acc F' M' → Im M' a (.lst xs))
    (step : ∀ i x acc D F' M' H', xs[i]? = some x → Sm F F' → Hs F' ((D, HO.lst acc) :: M') H' → I i acc F' M' → CvT g tt te vs σw F D (I (i + 1)) x H')
    (done : ∀ D acc F' M' H', F D = none → Sm F F' → Hs F' ((D, HO.lst acc) :: M') H' → I xs.length acc F' M' → Q (.ref D) H') : nSeqL K (.ref a) H fun J H1 => nComp g tt te vs σ Q J H1 :=
  ⟨a, rfl, ⟨xs, SqL.of (hs.im hx)⟩, fun D hD => lc_list (K := K) (a := a) (xs := xs) (fun i => CvH F D (I i)) ⟨F, M, [], Same.refl F, hs.new hD, h0⟩
    (fun i H' _ ⟨F', M', acc, e, hs', p⟩ => SqL.of (hs'.im (@im1 _ _ _ _ (hk i acc F' M' p))))
    (fun i x H' hi ⟨F', M', acc, e, hs', p⟩ => by have := step i x acc D F' M' H' hi ⟨e⟩ hs' p; rw [← hw.h] at this; exact this) (fun H' ⟨F', M', acc, e, hs', p⟩ => done D acc F' M' H' (hs.free hD) ⟨e⟩ hs' p)⟩
theorem nCompR {lo : Int} {n : Nat} {σw : L2.St} (I : Nat → Cv) [hs : Hs F M H] [hw : Wp σ vs σw] (h0 : I 0 [] F M)
    (step : ∀ (i : Nat) acc D F' M' H', i < n → Sm F F' → Hs F' ((D, HO.lst acc) :: M') H' → I i acc F' M' → CvT g tt te vs σw F D (I (i + 1)) (.int (lo + i)) H')
    (done : ∀ D acc F' M' H', F D = none → Sm F F' → Hs F' ((D, HO.lst acc) :: M') H' → I n acc F' M' → Q (.ref D) H') : nComp g tt te vs σ Q (Itr lo n) H := fun D hD =>
  lc_range (lo := lo) (n := n) (fun i => CvH F D (I i)) ⟨F, M, [], Same.refl F, hs.new hD, h0⟩
    (fun i H' hi ⟨F', M', acc, e, hs', p⟩ => by have := step i acc D F' M' H' hi ⟨e⟩ hs' p; rw [← hw.h] at this; exact this) (fun H' ⟨F', M', acc, e, hs', p⟩ => done D acc F' M' H' (hs.free hD) ⟨e⟩ hs' p)
end

/-! ### isinstance, all -/
class Kt (a b : String) (r : outParam Bool) : Prop where
  h : kitB a b = some r
instance : Kt "int" "int" true := ⟨by decide +kernel⟩
instance : Kt "int" "bool" false := ⟨by decide +kernel⟩
instance : Kt "int" "str" false := ⟨by decide +kernel⟩
instance : Kt "int" "tuple" false := ⟨by decide +kernel⟩
instance : Kt "int" "list" false := ⟨by decide +kernel⟩
instance : Kt "bool" "int" true := ⟨by decide +kernel⟩
instance : Kt "bool" "bool" true := ⟨by decide +kernel⟩
instance : Kt "bool" "str" false := ⟨by decide +kernel⟩
instance : Kt "bool" "tuple" false := ⟨by decide +kernel⟩
instance : Kt "bool" "list" false := ⟨by decide +kernel⟩
instance : Kt "str" "int" false := ⟨by decide +kernel⟩
instance : Kt "str" "bool" false := ⟨by decide +kernel⟩
instance : Kt "str" "str" true := ⟨by decide +kernel⟩
instance : Kt "str" "tuple" false := ⟨by decide +kernel⟩
instance : Kt "str" "list" false := ⟨by decide +kernel⟩
instance : Kt "NoneType" "int" false := ⟨by decide +kernel⟩
instance : Kt "NoneType" "bool" false := ⟨by decide +kernel⟩
instance : Kt "NoneType" "str" false := ⟨by decide +kernel⟩
instance : Kt "NoneType" "tuple" false := ⟨by decide +kernel⟩
instance : Kt "NoneType" "list" false := ⟨by decide +kernel⟩
instance : Kt "tuple" "int" false := ⟨by decide +kernel⟩
instance : Kt "tuple" "bool" false := ⟨by decide +kernel⟩
instance : Kt "tuple" "str" false := ⟨by decide +kernel⟩
instance : Kt "tuple" "tuple" true := ⟨by decide +kernel⟩
instance : Kt "tuple" "list" false := ⟨by decide +kernel⟩
instance : Kt "list" "int" false := ⟨by decide +kernel⟩
instance : Kt "list" "bool" false := ⟨by decide +kernel⟩
instance : Kt "list" "str" false := ⟨by decide +kernel⟩
instance : Kt "list" "tuple" false := ⟨by decide +kernel⟩
instance : Kt "list" "list" true := ⟨by decide +kernel⟩
class TyC (K : PySem.W.Frag) (H : Hp) (x : V) (a : outParam String) : Prop where
  h : TyX K H x (.type a)
section
variable {K : PySem.W.Frag} {H F : Hp} {M : Ow} {p : Addr} {xs : List V} {Q : VK}
theorem tyT (h : SqT K H p xs) : TyX K H (.ref p) (.type "tuple") := by
  rcases h with (h | ⟨o, h⟩) | ⟨o, its, n, e, c, _⟩
  · exact .base (.tup h)
  · exact .fTuple h
  · exact .kTuple e c
theorem tyL (h : SqL K H p xs) : TyX K H (.ref p) (.type "list") := by
  rcases h with (h | ⟨o, h⟩) | ⟨o, its, n, e, c, _⟩
  · exact .base (.lst h)
  · exact .base (.frz h)
  · exact .kList e c
instance {i : Int} : TyC K H (.int i) "int" := ⟨.base (.int i)⟩
instance {b : Bool} : TyC K H (.bl b) "bool" := ⟨.base (.bl b)⟩
instance {x : Str} : TyC K H (.str x) "str" := ⟨.base (.str x)⟩
instance : TyC K H .non "NoneType" := ⟨.base .non⟩
instance [hs : Hs F M H] [hm : Im M p (.lst xs)] : TyC K H (.ref p) "list" := ⟨tyL (SqL.of (hs.im hm))⟩
instance (priority := 900) [hs : Hs F M H] [hm : FzT K F p xs] : TyC K H (.ref p) "tuple" := ⟨tyT (same_t hs.fz hm.h)⟩
instance (priority := 800) [hs : Hs F M H] [hm : FzL K F p xs] : TyC K H (.ref p) "list" := ⟨tyL (same_l hs.fz hm.h)⟩
instance {x : V} {a T : String} {r : Bool} [t : TyC K H x a] [k : Kt a T r] : St1 (rIsi K [x, .ty T] H Q) (Q (.bl r) H) := ⟨fun h => ⟨x, .ty T, _, _, r, rfl, .ty T, t.h, kit_ty k.h, h⟩⟩
theorem nAll {bs : List Bool} [hs : Hs F M H] [hm : Im M p (.lst (bs.map V.bl))] (h : Q (.bl (bs.all id)) H) : rAll K [.ref p] H Q := ⟨p, bs, rfl, SqL.of (hs.im hm), h⟩
theorem nAllT {n : Nat} [hs : Hs F M H] [hm : Im M p (.lst (List.replicate n (V.bl true)))] (h : Q (.bl true) H) : rAll K [.ref p] H Q := ⟨p, List.replicate n true, rfl, by
  rw [List.map_replicate]; exact SqL.of (hs.im hm), by rw [List.all_replicate]; simp; exact h⟩
end

/-! ### calls of the text's own -/
section
variable (P : Program) (w : World) (K : PySem.W.Frag) (mg : Str → Option Value) (base : Heap) (CX : CXT)
structure Fn (x : Str) (k : Nat) (ps : List Str) (dvs : List V) (sp : Sp) : Prop where
  fn : ∃ fd ds, FnOk P w K mg base CX k (He.ga K x) fd ps sp ∧ Binds K fd ps ds ∧ Vals dvs ds
  kp : PySem.W.keepIn K (.ref (He.ga K x)) = true
  gl : mg x = some (.ref (He.ga K x))
structure Me (C m : Str) (k : Nat) (ps : List Str) (dvs : List V) (sp : Sp) : Prop where
  fn : ∃ fd ds, FnOk P w K mg base CX k (He.ma K (He.ga K C) m) fd ps sp ∧ Binds K fd ps ds ∧ Vals dvs ds
  cl : Cls K (He.ga K C)
  mt : Meth K (He.ga K C) m (He.ma K (He.ga K C) m)
structure Mkr (C : Str) (k : Nat) (ps : List Str) (dvs : List V) (sp : Sp) : Prop where
  fn : ∃ fd ds, FnOk P w K mg base CX k (He.ma K (He.ga K C) "__init__") fd ps sp ∧ Binds K fd ps ds ∧ Vals dvs ds
  mkk : Mk K (He.ga K C) (He.ma K (He.ga K C) "__init__")
  gl : mg C = some (.ref (He.ga K C))
end
section
variable {X : Cx} {CX : CXT} {k : Nat} {ps : List Str} {sp : Sp} {dvs : List V} {E : XK} {x m C : Str} {p pos apos : Pos} {e o : Expr} {es : List Expr} {ta : TE} {t : TA}
theorem pe_fn (G : Fn X.prog X.w X.K X.mg X.base CX x k ps dvs sp) (hr : Room k X.A) (hx : Passes CX X E) (ha : PA X (e :: es) t) (hg : Gl X x := by rfl) (hdb : (x == ("__debug__" : Str)) = false := by decide)
    (he : starEach (e :: es) X.env = (false, eval e X.env) :: starEach es X.env := by rfl) (hpl : (backTo pos (starEach es X.env)).any (·.1) = false := by rfl) : PE X (.Call (.Name x p) (e :: es) [] pos) (tCall sp dvs E t) := by
  obtain ⟨fd, ds, F, b, v⟩ := G.fn
  exact pe_call F hr hg G.gl G.kp b v hx ha hdb he hpl
theorem pe_fn0 (G : Fn X.prog X.w X.K X.mg X.base CX x k ps dvs sp) (hr : Room k X.A) (hx : Passes CX X E) (hg : Gl X x := by rfl) (hdb : (x == ("__debug__" : Str)) = false := by decide) : PE X (.Call (.Name x p) [] [] pos) (tCall sp dvs E tNil) := by
  obtain ⟨fd, ds, F, b, v⟩ := G.fn
  exact pe_call0 F hr hg G.gl G.kp b v hx hdb
theorem pe_me {pl : Sem Bool} (G : Me X.prog X.w X.K X.mg X.base CX C m k ps dvs sp) (ho : PE X o ta) (hr : Room k X.A) (hx : Passes CX X E) (ha : PA X (e :: es) t)
    (hst : starEach (e :: es) X.env = (false, eval e X.env) :: starEach es X.env := by rfl) (hpl : (backTo pos (starEach es X.env)).any (·.1) = false := by rfl)
    (ht : eval (.Call (.Attribute o m apos) (e :: es) [] pos) X.env = (do
      let ov ← eval o X.env
      standAt apos.atName
      let (f, first) ← holding [ov] (getMethod ov m pl)
      callWith pos f first (backTo pos (starEach (e :: es) X.env)) (backToKw pos (keywordEach [] X.env))) := by rfl) :
    PE X (.Call (.Attribute o m apos) (e :: es) [] pos) (tMeth (He.ga X.K C) m sp dvs E ta t) := by
  obtain ⟨fd, ds, F, b, v⟩ := G.fn
  exact pe_meth ho G.cl G.mt F hr b v hx ha hst hpl ht
theorem pe_me0 {pl : Sem Bool} (G : Me X.prog X.w X.K X.mg X.base CX C m k ps dvs sp) (ho : PE X o ta) (hr : Room k X.A) (hx : Passes CX X E)
    (ht : eval (.Call (.Attribute o m apos) [] [] pos) X.env = (do
      let ov ← eval o X.env
      standAt apos.atName
      let (f, first) ← holding [ov] (getMethod ov m pl)
      callWith pos f first (backTo pos (starEach [] X.env)) (backToKw pos (keywordEach [] X.env))) := by rfl) :
    PE X (.Call (.Attribute o m apos) [] [] pos) (tMeth (He.ga X.K C) m sp dvs E ta tNil) := by
  obtain ⟨fd, ds, F, b, v⟩ := G.fn
  exact pe_meth0 ho G.cl G.mt F hr b v hx ht
theorem pe_mkr (G : Mkr X.prog X.w X.K X.mg X.base CX C k ps dvs sp) (hr : Room (k + 1) X.A) (hx : Passes CX X E) (ha : PA X (e :: es) t) (hg : Gl X C := by rfl) (hdb : (C == ("__debug__" : Str)) = false := by decide)
    (he : starEach (e :: es) X.env = (false, eval e X.env) :: starEach es X.env := by rfl) (hpl : (backTo pos (starEach es X.env)).any (·.1) = false := by rfl) : PE X (.Call (.Name C p) (e :: es) [] pos) (tMake (He.ga X.K C) sp dvs E t) := by
  obtain ⟨fd, ds, F, b, v⟩ := G.fn
  exact pe_make G.mkk F hr hg G.gl b v hx ha hdb he hpl
theorem pe_mkr0 (G : Mkr X.prog X.w X.K X.mg X.base CX C k ps dvs sp) (hr : Room (k + 1) X.A) (hx : Passes CX X E) (hg : Gl X C := by rfl) (hdb : (C == ("__debug__" : Str)) = false := by decide) : PE X (.Call (.Name C p) [] [] pos) (tMake (He.ga X.K C) sp dvs E tNil) := by
  obtain ⟨fd, ds, F, b, v⟩ := G.fn
  exact pe_make0 G.mkk F hr hg G.gl b v hx hdb
/-- a new instance: what __init__ is asked -/
def nMake (C : Addr) (sp : Sp) (E : XK) (vs : List V) (H1 : Hp) (Q : VK) : Prop := ∀ x dx, H1 x = none → H1 dx = none → dx ≠ x → sp (.ref x :: vs) (upd (upd H1 dx (.own x)) x (.ins C dx [])) (fun v H2 => v = .non ∧ Q (.ref x) H2) E
instance {C : Addr} {σ : L2.St} {H : Hp} {Q : VK} {tr : TA} : St1 (tMake C sp dvs E tr σ H Q) (tr σ H fun vs H1 => nMake C sp E (vs ++ dvs) H1 Q) := ⟨id⟩
theorem Hs.make {F H : Hp} {M : Ow} {x dx C : Addr} {ns : List Str} (hs : Hs F M H) (h1 : H x = none) (h2 : H dx = none) (h3 : dx ≠ x) : Hs (upd F dx (.own x)) ((x, Ob C dx ns []) :: M) (upd (upd H dx (.own x)) x (.ins C dx [])) ∧ Same F (upd F dx (.own x)) := by
  refine ⟨?_, same_upd (hs.free h2)⟩
  have e : (Ob C dx ns [] : HO) = .ins C dx [] := by show HO.ins C dx (ns.zip []) = _; rw [List.zip_nil_right]
  rw [e]
  exact (hs.newF h2).new (by rw [upd_ne (Ne.symm h3)]; exact h1)
theorem nMake_mk {C : Addr} {ns : List Str} {vs : List V} {F H : Hp} {M : Ow} {Q : VK} [hs : Hs F M H] (h : ∀ x dx F' H', F x = none → Sm F F' → Hs F' ((x, Ob C dx ns []) :: M) H' → sp (.ref x :: vs) H' (fun v H2 => v = .non ∧ Q (.ref x) H2) E) : nMake C sp E vs H Q :=
  fun x dx h1 h2 h3 => h x dx _ _ (hs.free h1) ⟨(hs.make (C := C) (ns := ns) h1 h2 h3).2⟩ (hs.make h1 h2 h3).1
end
end Sh


set_option Elab.async false
set_option linter.all false
set_option maxRecDepth 100000
set_option maxHeartbeats 4000000
/-! # Further rules: what walks a list or a tuple -/
namespace Sh
open PySem PySem.Spec PyProof.Rows L2
section
variable {X : Cx} {tg : Expr}
/-- a list or a tuple is walked: whichever it turns out to be -/
def iLT (K : PySem.W.Frag) (tl : TE) : TI := fun σ H R => tl σ H fun x H1 => (∃ a, x = .ref a ∧ (∃ xs, SqL K H1 a xs) ∧ R (Itl K a) H1) ∨ (∃ a, x = .ref a ∧ (∃ xs, SqT K H1 a xs) ∧ R (Itt K a) H1)
/-- an iterator laid at the heap's end is ours -/
theorem laid_ours {pins : List (Addr × Obj)} {σ : L2.St} {H : Hp} {s : Shared} {o : Obj} {J : It} {tn : Nat → Heap → Prop} {R : It → Hp → Prop} (I : Inv X pins σ H s) (tt : Turn X.prog X.w X.K tg J [s.heap.objs.size] s.heap.objs.size tn)
    (h0 : tn 0 (s.heap.push o)) (q : R J H) : PIE X pins σ tg R (.ref s.heap.objs.size) { s with heap := s.heap.push o } := by
  have kept : Inv X pins σ H { s with heap := s.heap.push o } := I.kept (t' := s.toks) (fun _ _ e => Heap.get?_push_of_some _ e)
  refine ⟨_, [s.heap.objs.size], tn, J, H, rfl, kept, tt, h0, ?_, q⟩
  intro b hb
  rw [List.mem_singleton.mp hb]
  exact I.fpOk (Nat.le_refl _) (I.hok.fresh (Nat.le_refl _))
theorem pi_lt {l : Expr} {tl : TE} (hl : PE X l tl) : PI X tg l (iLT X.K tl) := by
  constructor
  intro pins s σ H R I h
  refine thn (hl.run pins s σ H _ I h) ?_
  rintro v s1 ⟨x, H1, I1, r1, q1⟩
  rcases q1 with ⟨a, rfl, ⟨xs, hq⟩, q⟩ | ⟨a, rfl, ⟨xs, hq⟩, q⟩ <;> cases r1
  · obtain ⟨its, -, p, -⟩ := I1.list hq
    exact wpAny_pyIter_list p.isList (laid_ours I1 (turn_list a _) ⟨_, Heap.get?_push_size _ rfl, rfl, rfl⟩ q)
  · obtain ⟨its, -, p, -⟩ := I1.tuple hq
    exact wpAny_pyIter_tuple (items := its.toArray) p (laid_ours I1 (turn_tuple a _) ⟨_, Heap.get?_push_size _ rfl, rfl, rfl⟩ q)
end
section
variable {K : PySem.W.Frag} {σ : L2.St} {H F : Hp} {M : Ow} {g : TG} {tb : TS} {a : Addr} {xs : List V} {N B C : L2.St → Hp → Prop} {R : VK} {te : TE} {tt : TT} {Q : VK} {vs : List Nat} {tl : TE}
def nSeqLT (K : PySem.W.Frag) (x : V) (H1 : Hp) (q : It → Hp → Prop) : Prop := nSeqL K x H1 q ∨ nSeqT K x H1 q
instance : St1 (tFor (iLT K te) g tb (En N R B C) σ H) (te σ H fun x H1 => nSeqLT K x H1 fun J H1 => nLoop g tb N R σ J H1) := ⟨id⟩
instance : St1 (tLc (iLT K tl) g tt te vs σ H Q) (tl σ H fun x H1 => nSeqLT K x H1 fun J H1 => nComp g tt te vs σ Q J H1) := ⟨id⟩
theorem nLoopLT (I : Nat → Iv) [hs : Hs F M H] (hx : SqL K F a xs ∨ SqT K F a xs) (h0 : I 0 σ F M)
    (step : ∀ i x σ' F' M' H', xs[i]? = some x → Sm F F' → Hs F' M' H' → I i σ' F' M' → g x σ' H' fun σ2 H2 => tb (En (IvH F (I (i + 1))) R N (IvH F (I (i + 1)))) σ2 H2)
    (done : ∀ σ' F' M' H', Sm F F' → Hs F' M' H' → I xs.length σ' F' M' → N σ' H') : nSeqLT K (.ref a) H fun J H1 => nLoop g tb N R σ J H1 := by
  rcases hx with hx | hx
  · have : FzL K F a xs := ⟨hx⟩
    exact .inl (nLoopL I h0 step done)
  · have : FzT K F a xs := ⟨hx⟩
    exact .inr (nLoopT I h0 step done)
end
end Sh


set_option Elab.async false
set_option linter.all false
set_option maxRecDepth 100000
set_option maxHeartbeats 4000000
/-! # Data: rows of tuples of ints and the like -/
namespace Sh
open PySem PySem.Spec PyProof.Rows L2
section
variable {K : PySem.W.Frag} {F F' : Hp}
theorem dpa_len : ∀ {xs : List V} {ds : List PyData}, DpAll K F xs ds → xs.length = ds.length
  | _, _, .nil => rfl
  | _, _, .cons _ r => congrArg (· + 1) (dpa_len r)
theorem dpa_get : ∀ {xs : List V} {ds : List PyData} {i : Nat}, DpAll K F xs ds → i < ds.length → ∃ v d, xs[i]? = some v ∧ ds[i]? = some d ∧ Dp K F v d
  | _, _, _, .nil, h => by simp at h
  | _, _, 0, .cons a _, _ => ⟨_, _, rfl, rfl, a⟩
  | _, _, i + 1, .cons _ r, h => by
    obtain ⟨v, d, h1, h2, h3⟩ := dpa_get (i := i) r (by simpa using h)
    exact ⟨v, d, by simpa using h1, by simpa using h2, h3⟩
theorem dpa_at : ∀ {xs : List V} {ds : List PyData} {i : Nat} {v : V}, DpAll K F xs ds → xs[i]? = some v → ∃ d, ds[i]? = some d ∧ Dp K F v d
  | _, _, i, v, h, e => by
    have hl := (List.getElem?_eq_some_iff.mp e).1
    rw [dpa_len h] at hl
    obtain ⟨v', d, h1, h2, h3⟩ := dpa_get h hl
    rw [e] at h1; cases h1
    exact ⟨d, h2, h3⟩
theorem dpa_app : ∀ {xs ys : List V} {ds es : List PyData}, DpAll K F xs ds → DpAll K F ys es → DpAll K F (xs ++ ys) (ds ++ es)
  | _, _, _, _, .nil, h => h
  | _, _, _, _, .cons a r, h => .cons a (dpa_app r h)
theorem dpa_snoc : ∀ {xs : List V} {ds : List PyData} {d : PyData}, DpAll K F xs (ds ++ [d]) → ∃ ys v, xs = ys ++ [v] ∧ DpAll K F ys ds ∧ Dp K F v d
  | _, [], _, .cons a .nil => ⟨[], _, rfl, .nil, a⟩
  | _, _ :: ds, _, .cons a r => by
    obtain ⟨ys, v, rfl, h1, h2⟩ := dpa_snoc (ds := ds) r
    exact ⟨_ :: ys, v, rfl, .cons a h1, h2⟩
theorem dpa_set : ∀ {xs : List V} {ds : List PyData} {v : V} {d : PyData} {i : Nat}, DpAll K F xs ds → Dp K F v d → DpAll K F (xs.set i v) (ds.set i d)
  | _, _, _, _, _, .nil, _ => .nil
  | _, _, _, _, 0, .cons _ r, h => .cons h r
  | _, _, _, _, _ + 1, .cons a r, h => .cons a (dpa_set r h)
mutual
theorem dp_mono (e : Same F F') : ∀ {d : PyData} {v : V}, Dp K F v d → Dp K F' v d
  | _, _, .non => .non
  | _, _, .bl b => .bl b
  | _, _, .int i => .int i
  | _, _, .str x => .str x
  | _, _, .lst h r => .lst (same_l e h) (dpa_mono e r)
  | _, _, .tup h r => .tup (same_t e h) (dpa_mono e r)
theorem dpa_mono (e : Same F F') : ∀ {ds : List PyData} {vs : List V}, DpAll K F vs ds → DpAll K F' vs ds
  | _, _, .nil => .nil
  | _, _, .cons h r => .cons (dp_mono e h) (dpa_mono e r)
end
theorem dp_int {v : V} {i : Int} (h : Dp K F v (.int i)) : v = .int i := by cases h; rfl
theorem dp_str {v : V} {x : Str} (h : Dp K F v (.str x)) : v = .str x := by cases h; rfl
theorem dp_tup {v : V} {ds : List PyData} (h : Dp K F v (.tuple ds)) : ∃ t xs, v = .ref t ∧ SqT K F t xs ∧ DpAll K F xs ds := by
  cases h with | tup a b => exact ⟨_, _, rfl, a, b⟩
theorem dp_lst {v : V} {ds : List PyData} (h : Dp K F v (.list ds)) : ∃ t xs, v = .ref t ∧ SqL K F t xs ∧ DpAll K F xs ds := by
  cases h with | lst a b => exact ⟨_, _, rfl, a, b⟩
theorem dpa_ints : ∀ {xs : List V} {ns : List Int}, DpAll K F xs (ns.map .int) → xs = ns.map V.int
  | _, [], .nil => rfl
  | _, _ :: ns, .cons a r => by rw [dp_int a, dpa_ints (ns := ns) r]; rfl
theorem dpa_of_ints : ∀ {ns : List Int}, DpAll K F (ns.map V.int) (ns.map .int)
  | [] => .nil
  | n :: _ => .cons (.int n) dpa_of_ints
/-- three ints -/
abbrev Tr := Int × Int × Int
def trD (t : Tr) : PyData := .tuple [.int t.1, .int t.2.1, .int t.2.2]
theorem dp_tr {v : V} {t : Tr} (h : Dp K F v (trD t)) : ∃ a, v = .ref a ∧ SqT K F a [.int t.1, .int t.2.1, .int t.2.2] := by
  obtain ⟨a, xs, rfl, h1, h2⟩ := dp_tup h
  have : xs = [t.1, t.2.1, t.2.2].map V.int := dpa_ints h2
  subst this
  exact ⟨a, rfl, h1⟩
theorem dp_trI {a : Addr} {x y z : Int} (h : SqT K F a [.int x, .int y, .int z]) : Dp K F (.ref a) (trD (x, y, z)) := .tup h (.cons (.int _) (.cons (.int _) (.cons (.int _) .nil)))
end
end Sh


set_option Elab.async false
set_option linter.all false
set_option maxRecDepth 100000
set_option maxHeartbeats 4000000
/-! # Progressions: numbers cut from the left, one by one or a row at once -/
namespace Sh
open PySem L2
abbrev Cs := Option (List Tr × Tr)
/-- one number more -/
def cstep : Cs → Int → Cs
  | none, x => some ([], (x, 0, 1))
  | some (l, (f, s, c)), x => if c = 1 then some (l, (f, x - f, 2)) else if x = f + s * c then some (l, (f, s, c + 1)) else some (l ++ [(f, s, c)], (x, 0, 1))
def clist : Cs → List Tr
  | none => []
  | some (l, t) => l ++ [t]
/-- the numbers of a row -/
def nums (f s : Int) : Nat → List Int
  | 0 => []
  | n + 1 => f :: nums (f + s) s n
def numsT (t : Tr) : List Int := nums t.1 t.2.1 t.2.2.toNat
theorem nums_snoc (s : Int) : ∀ (n : Nat) (f : Int), nums f s (n + 1) = nums f s n ++ [f + s * n]
  | 0, f => by simp [nums]
  | n + 1, f => by
    rw [nums, nums_snoc s n (f + s), nums, List.cons_append]
    have : f + s + s * (n : Int) = f + s * ((n + 1 : Nat) : Int) := by rw [Int.natCast_add, Int.mul_add]; simp; omega
    rw [this]
theorem nums_len (s : Int) : ∀ (n : Nat) (f : Int), (nums f s n).length = n
  | 0, _ => rfl
  | n + 1, f => by rw [nums, List.length_cons, nums_len]
theorem nums_map (s : Int) (n : Nat) (f : Int) : nums f s n = (List.range n).map fun (k : Nat) => f + s * (k : Int) := by
  induction n with
  | zero => rfl
  | succ n ih => rw [nums_snoc, ih, List.range_succ, List.map_append]; rfl
theorem nums_add (s : Int) (m : Nat) : ∀ (n : Nat) (f : Int), nums f s (n + m) = nums f s n ++ nums (f + s * n) s m
  | 0, f => by simp [nums]
  | n + 1, f => by
    rw [show n + 1 + m = (n + m) + 1 by omega, nums, nums_add s m n (f + s), nums, List.cons_append]
    have : f + s + s * (n : Int) = f + s * ((n + 1 : Nat) : Int) := by rw [Int.natCast_add, Int.mul_add]; simp; omega
    rw [this]
theorem cs0 {x : Int} : cstep none x = some ([], (x, 0, 1)) := rfl
theorem cs1 {l : List Tr} {f s c x : Int} (h : c = 1) : cstep (some (l, (f, s, c))) x = some (l, (f, x - f, 2)) := if_pos h
theorem cs2 {l : List Tr} {f s c x : Int} (h : ¬ c = 1) (e : x = f + s * c) : cstep (some (l, (f, s, c))) x = some (l, (f, s, c + 1)) := by
  show (if c = 1 then _ else if x = f + s * c then _ else _) = _
  rw [if_neg h, if_pos e]
theorem cs3 {l : List Tr} {f s c x : Int} (h : ¬ c = 1) (e : ¬ x = f + s * c) : cstep (some (l, (f, s, c))) x = some (l ++ [(f, s, c)], (x, 0, 1)) := by
  show (if c = 1 then _ else if x = f + s * c then _ else _) = _
  rw [if_neg h, if_neg e]
/-- each way of a step -/
theorem cs_all {P : Cs → Prop} (z : Cs) (x : Int) (h0 : z = none → P (some ([], (x, 0, 1)))) (h1 : ∀ l f s c, z = some (l, (f, s, c)) → c = 1 → P (some (l, (f, x - f, 2))))
    (h2 : ∀ l f s c, z = some (l, (f, s, c)) → ¬ c = 1 → x = f + s * c → P (some (l, (f, s, c + 1)))) (h3 : ∀ l f s c, z = some (l, (f, s, c)) → ¬ c = 1 → ¬ x = f + s * c → P (some (l ++ [(f, s, c)], (x, 0, 1)))) : P (cstep z x) := by
  match z, h0, h1, h2, h3 with
  | none, h0, _, _, _ => exact h0 rfl
  | some (l, (f, s, c)), _, h1, h2, h3 =>
    by_cases hc : c = 1
    · rw [cs1 hc]; exact h1 l f s c rfl hc
    · by_cases he : x = f + s * c
      · rw [cs2 hc he]; exact h2 l f s c rfl hc he
      · rw [cs3 hc he]; exact h3 l f s c rfl hc he
/-- c is what the state counts: at least 1 -/
def cOk : Cs → Prop
  | none => True
  | some (_, (_, s, c)) => 1 ≤ c ∧ (c = 1 → s = 0)
theorem cstep_ok {z : Cs} {x : Int} (h : cOk z) : cOk (cstep z x) := by
  refine cs_all z x (fun _ => ⟨by decide, fun _ => rfl⟩) (fun l f s c _ _ => ⟨by decide, fun e => by omega⟩) (fun l f s c e hc _ => ?_) (fun l f s c _ _ _ => ⟨by decide, fun _ => rfl⟩)
  subst e
  have := h.1
  exact ⟨by omega, fun e => by omega⟩
theorem fold_ok : ∀ (ns : List Int) {z : Cs}, cOk z → cOk (ns.foldl cstep z)
  | [], _, h => h
  | _ :: ns, _, h => fold_ok ns (cstep_ok h)
/-- the last number is y -/
def cLast (y : Int) : Cs → Prop
  | none => False
  | some (_, (f, s, c)) => y = f + s * (c - 1)
theorem cstep_last (z : Cs) (x : Int) : cLast x (cstep z x) := by
  refine cs_all z x (fun _ => ?_) (fun l f s c _ _ => ?_) (fun l f s c _ _ he => ?_) (fun l f s c _ _ _ => ?_)
  · simp [cLast]
  · simp only [cLast]; omega
  · simp only [cLast]; rw [he, show c + 1 - 1 = c by omega]
  · simp [cLast]
/-- it goes on by s: two numbers at least -/
def cRun (s : Int) : Cs → Prop
  | none => False
  | some (_, (_, t, c)) => t = s ∧ 2 ≤ c
theorem run_step {z : Cs} {s x : Int} (h : cRun s z) (hl : cLast x z) : cRun s (cstep z (x + s)) := by
  match z, h, hl with
  | some (l, (f, t, c)), h, hl =>
    obtain ⟨rfl, h2⟩ := h
    simp only [cLast] at hl
    rw [cs2 (by omega) (by rw [hl, Int.mul_sub, Int.mul_one]; omega)]
    exact ⟨rfl, by omega⟩
/-- behind three numbers of a row it goes on by its step -/
theorem run_three {z : Cs} (h : cOk z) (x s : Int) : cRun s (cstep (cstep (cstep z x) (x + s)) (x + s + s)) := by
  have k1 := cstep_ok (x := x) h
  have l1 := cstep_last z x
  generalize cstep z x = z1 at k1 l1
  match z1, k1, l1 with
  | some (l, (f, t, c)), k1, l1 =>
    simp only [cLast] at l1
    obtain ⟨k1, k2⟩ := k1
    by_cases hc : c = 1
    · subst hc
      have e : x = f := by rw [l1]; simp
      rw [cs1 rfl, e]
      refine run_step ⟨by omega, by omega⟩ ?_
      simp only [cLast]; omega
    · by_cases ht : x + s = f + t * c
      · have es : t = s := by rw [l1, Int.mul_sub, Int.mul_one] at ht; omega
        rw [cs2 hc ht]
        refine run_step ⟨es, by omega⟩ ?_
        simp only [cLast]; rw [ht, show c + 1 - 1 = c by omega]
      · rw [cs3 hc ht, cs1 rfl]
        exact ⟨by omega, by omega⟩
theorem fold_last (s : Int) : ∀ (n : Nat) (x : Int) (z : Cs), cLast (x + s * n) ((nums x s (n + 1)).foldl cstep z) := by
  intro n x z
  rw [nums_snoc, List.foldl_append]
  exact cstep_last _ _
/-- a row's rest at once -/
theorem fold_rest {l : List Tr} {f s c : Int} (hc : 2 ≤ c) : ∀ (n : Nat), (nums (f + s * c) s n).foldl cstep (some (l, (f, s, c))) = some (l, (f, s, c + n))
  | 0 => by simp [nums]
  | n + 1 => by
    rw [nums_snoc, List.foldl_append, fold_rest hc n]
    show cstep (some (l, (f, s, c + n))) (f + s * c + s * n) = _
    rw [cs2 (by omega) (by rw [Int.mul_add]; omega)]
    rw [show c + (n : Int) + 1 = c + ((n + 1 : Nat) : Int) by push_cast; omega]
theorem run_of {z : Cs} (h : cOk z) (x s : Int) (n : Nat) (hn : 3 ≤ n) : cRun s ((nums x s n).foldl cstep z) := by
  obtain ⟨m, rfl⟩ : ∃ m, n = m + 3 := ⟨n - 3, by omega⟩
  clear hn
  induction m with
  | zero =>
    have := run_three h x s
    simpa [nums] using this
  | succ m ih =>
    rw [show m + 1 + 3 = (m + 3) + 1 by omega, nums_snoc, List.foldl_append]
    have l := fold_last s (m + 2) x z
    have := run_step ih l
    rw [show x + s * ((m + 2 : Nat) : Int) + s = x + s * ((m + 3 : Nat) : Int) by rw [show ((m + 3 : Nat) : Int) = ((m + 2 : Nat) : Int) + 1 by omega, Int.mul_add, Int.mul_one]; omega] at this
    exact this
/-- telling a cut list's numbers again gives the numbers -/
theorem nums_tell (z : Cs) (h : cOk z) (x : Int) : ((clist (cstep z x)).map numsT).flatten = ((clist z).map numsT).flatten ++ [x] := by
  refine cs_all (P := fun w => ((clist w).map numsT).flatten = ((clist z).map numsT).flatten ++ [x]) z x (fun e => ?_) (fun l f s c e hc => ?_) (fun l f s c e hc he => ?_) (fun l f s c e hc he => ?_) <;> subst e
  · simp [clist, numsT, nums]
  · subst hc
    simp [clist, numsT, nums]
    omega
  · have h1 := h.1
    simp only [clist, List.map_append, List.map_cons, List.map_nil, List.flatten_append, List.flatten_cons, List.flatten_nil, List.append_nil, numsT]
    rw [show (c + 1).toNat = c.toNat + 1 by omega, nums_snoc, List.append_assoc, he, show ((c.toNat : Nat) : Int) = c by omega]
  · simp [clist, numsT, nums]
theorem fold_tell : ∀ (ns : List Int) (z : Cs), cOk z → ((clist (ns.foldl cstep z)).map numsT).flatten = ((clist z).map numsT).flatten ++ ns
  | [], z, _ => by simp
  | n :: ns, z, h => by
    rw [List.foldl_cons, fold_tell ns _ (cstep_ok h), nums_tell z h]
    simp
/-- the rows' numbers, cut -/
def cutN (ns : List Int) : List Tr := clist (ns.foldl cstep none)
def cutR (rows : List Tr) : List Tr := cutN (rows.map numsT).flatten
theorem cut_again (ns : List Int) : cutR (cutN ns) = cutN ns := by
  unfold cutR cutN
  rw [fold_tell ns none trivial]
  rfl
theorem pos_of : ∀ (ns : List Int) (z : Cs), cOk z → (∀ t ∈ clist z, 1 ≤ t.2.2) → ∀ t ∈ clist (ns.foldl cstep z), 1 ≤ t.2.2
  | [], z, _, h => h
  | n :: ns, z, hz, h => by
    refine pos_of ns _ (cstep_ok hz) ?_
    refine cs_all (P := fun w => ∀ t ∈ clist w, 1 ≤ t.2.2) z n (fun e => ?_) (fun l f s c e hc => ?_) (fun l f s c e hc he => ?_) (fun l f s c e hc he => ?_) <;> subst e <;> intro t ht <;> simp only [clist, List.mem_append, List.mem_singleton, List.not_mem_nil, false_or] at ht
    · rw [ht]; simp
    · rcases ht with ht | ht
      · exact h t (by simp [clist, ht])
      · rw [ht]; simp
    · rcases ht with ht | ht
      · exact h t (by simp [clist, ht])
      · rw [ht]; show 1 ≤ c + 1; have := hz.1; omega
    · rcases ht with ht | ht
      · exact h t (by simpa [clist] using ht)
      · rw [ht]; simp
def cntT (ts : List Tr) : Int := (ts.map fun t => t.2.2).sum
theorem cnt_nn : ∀ {l : List Tr}, (∀ t ∈ l, 1 ≤ t.2.2) → 0 ≤ cntT l
  | [], _ => by simp [cntT]
  | r :: l, h => by
    have h1 := cnt_nn (l := l) fun t ht => h t (List.mem_cons_of_mem _ ht)
    have h2 := h r List.mem_cons_self
    simp only [cntT, List.map_cons, List.sum_cons] at *
    omega
theorem cnt_step (z : Cs) (h : cOk z) (x : Int) : cntT (clist (cstep z x)) = cntT (clist z) + 1 := by
  refine cs_all (P := fun w => cntT (clist w) = cntT (clist z) + 1) z x (fun e => ?_) (fun l f s c e hc => ?_) (fun l f s c e hc he => ?_) (fun l f s c e hc he => ?_) <;> subst e <;> simp [clist, cntT] <;> omega
theorem cnt_fold : ∀ (ns : List Int) (z : Cs), cOk z → cntT (clist (ns.foldl cstep z)) = cntT (clist z) + ns.length
  | [], z, _ => by simp
  | n :: ns, z, h => by
    rw [List.foldl_cons, cnt_fold ns _ (cstep_ok h), cnt_step z h, List.length_cons]
    push_cast; omega
theorem len_step (z : Cs) (x : Int) : (clist (cstep z x)).length ≤ (clist z).length + 1 := by
  refine cs_all (P := fun w => (clist w).length ≤ (clist z).length + 1) z x (fun e => ?_) (fun l f s c e hc => ?_) (fun l f s c e hc he => ?_) (fun l f s c e hc he => ?_) <;> subst e <;> simp [clist]
theorem len_fold : ∀ (ns : List Int) (z : Cs), (clist (ns.foldl cstep z)).length ≤ (clist z).length + ns.length
  | [], z => by simp
  | n :: ns, z => by
    have := len_fold ns (cstep z n)
    have := len_step z n
    rw [List.foldl_cons, List.length_cons]; omega
/-- a last row of five numbers or more goes on: the last progression does -/
theorem cut_more {ini : List Tr} {f s c : Int} (hc : 4 < c) {more : Int} (hm : 0 ≤ more) : ∃ L f' s' c', cutR (ini ++ [(f, s, c)]) = L ++ [(f', s', c')] ∧ cutR (ini ++ [(f, s, c + more)]) = L ++ [(f', s', c' + more)] := by
  have hok := fold_ok (ini.map numsT).flatten (z := none) trivial
  have r := run_of hok f s c.toNat (by omega)
  have la := fold_last s (c.toNat - 1) f ((ini.map numsT).flatten.foldl cstep none)
  rw [show c.toNat - 1 + 1 = c.toNat by omega] at la
  have e1 : ∀ n : Int, ((ini ++ [(f, s, n)]).map numsT).flatten.foldl cstep none = (nums f s n.toNat).foldl cstep ((ini.map numsT).flatten.foldl cstep none) := fun n => by
    rw [List.map_append, List.flatten_append, List.foldl_append]; simp [numsT]
  unfold cutR cutN
  rw [e1, e1]
  rw [show (c + more).toNat = c.toNat + more.toNat by omega, nums_add, List.foldl_append]
  generalize (nums f s c.toNat).foldl cstep ((ini.map numsT).flatten.foldl cstep none) = Z at *
  match Z, r, la with
  | some (L, (f', s', c')), r, la =>
    obtain ⟨rfl, r2⟩ := r
    simp only [cLast] at la
    refine ⟨L, f', s', c', rfl, ?_⟩
    have e : f + s' * (c.toNat : Int) = f' + s' * c' := by
      rw [Int.mul_sub, Int.mul_one] at la
      have : s' * ((c.toNat - 1 : Nat) : Int) = s' * (c.toNat : Int) - s' := by
        rw [show ((c.toNat - 1 : Nat) : Int) = (c.toNat : Int) - 1 by omega, Int.mul_sub, Int.mul_one]
      omega
    rw [e, fold_rest r2]
    simp only [clist]
    rw [show ((more.toNat : Nat) : Int) = more by omega]
theorem cut_len (rows : List Tr) : (cutR rows).length ≤ (rows.map numsT).flatten.length := by
  have h : (cutR rows).length ≤ 0 + (rows.map numsT).flatten.length := len_fold (rows.map numsT).flatten none
  omega
theorem cut_pos (ns : List Int) : ∀ t ∈ cutN ns, 1 ≤ t.2.2 := pos_of ns none trivial (by simp [clist])
theorem cut_cnt (ns : List Int) : cntT (cutN ns) = ns.length := by
  have h : cntT (cutN ns) = 0 + (ns.length : Int) := cnt_fold ns none trivial
  omega
theorem flat_take {rows : List Tr} (i : Nat) : ((rows.take i).map numsT).flatten.length ≤ (rows.map numsT).flatten.length := by
  have e : rows = rows.take i ++ rows.drop i := (List.take_append_drop i rows).symm
  have : (rows.map numsT).flatten.length = ((rows.take i).map numsT).flatten.length + ((rows.drop i).map numsT).flatten.length := by
    conv => lhs; rw [e, List.map_append, List.flatten_append, List.length_append]
  omega
theorem flat_len : ∀ {rows : List Tr}, (∀ t ∈ rows, 1 ≤ t.2.2) → ((rows.map numsT).flatten.length : Int) = cntT rows
  | [], _ => by simp [cntT]
  | r :: rows, h => by
    have ih := flat_len (rows := rows) fun t ht => h t (List.mem_cons_of_mem _ ht)
    have := h r List.mem_cons_self
    simp only [List.map_cons, List.flatten_cons, List.length_append, numsT, nums_len, cntT, List.sum_cons] at *
    omega
end Sh


set_option Elab.async false
set_option linter.all false
set_option maxRecDepth 100000
set_option maxHeartbeats 4000000
namespace Sh
open PySem PySem.Spec PyProof.Rows L2
/-! the steps, by themselves as far as nothing is to be decided -/
set_option synthInstance.maxSize 4096
set_option synthInstance.maxHeartbeats 400000
local macro_rules | `(tactic| walk_at "sm") => `(tactic| first | assumption | exact Same.refl _ | exact Sm.h | (refine Same.trans ?_ Sm.h; walk_at "sm"))
local macro_rules | `(tactic| walk_at "py1") => `(tactic| first
  | refine go ?_
  | (with_reducible refine py_mulL (by omega) (by omega) ?_) | (with_reducible refine py_mulR (by omega) (by omega) ?_) | (with_reducible refine py_divI (by omega) (by omega) ?_) | (with_reducible refine py_modI (by omega) ?_)
  | (with_reducible refine nSet_mk ?_; intro _ _) | (with_reducible refine nTupF (by simp) ?_; intro _ _ _ _ _ _ _ _) | (with_reducible refine nLstO (by simp) ?_; intro _ _ _ _)
  | (with_reducible refine nRng1_mk (by omega) (by omega) ?_) | (with_reducible refine nRng2_mk (by omega) (by omega) (by omega) (by omega) ?_))
local macro_rules | `(tactic| walk_at "py") => `(tactic| repeat (walk_at "py1"))
def N_law_pool : List Str := ["_law_script", "_law_cell"]
theorem st_law_pool {v0 : V} : start N_law_pool [v0] = [some v0, none] := rfl
def t_law_pool (K : PySem.W.Frag) : TS := (tRet (tLst (tCons (tLc (iList K (tVar 0)) (gName 1) tYes (tIf (tTest (tOp rGeI (tVar 1) (tC (.int 0)))) (tOp rMulI (tC (.int 2)) (tVar 1)) (tOp rSubI (tOp rMulI (tUn rNegI (tC (.int 2))) (tVar 1)) (tC (.int 1)))) [1]) (tCons (tC (.int 0)) (tCons (tC (.int 0)) (tCons (tC (.int 17)) tNil))))))
def N_law_take : List Str := ["_law_pool_here", "_law_many", "_law_digit", "_law_cell", "_law_mixed"]
theorem st_law_take {v0 v1 : V} : start N_law_take [v0, v1] = [some v0, some v1, none, none, none] := rfl
def t_law_take (K : PySem.W.Frag) (sp_law_take : Sp) : TS := (tSeq (tIfS (tTest (tOp rGtI (tOp (rIx K) (tVar 0) (tC (.int 2))) (tC (.int 0)))) (tSeq (tAsg (tOp rModI (tCB rInt1 (tCons (tOp (rIx K) (tVar 0) (tC (.int 2))) tNil)) (tVar 1)) (gName 2)) (tSeq (tAsg (tOp rDivI (tOp (rIx K) (tVar 0) (tC (.int 2))) (tVar 1)) (gSub (tVar 0) (tC (.int 2)) rSetL)) (tRet (tVar 2)))) tNext) (tSeq (tAsg (tC (.int 0)) (gName 3)) (Evl.tCut (tIfS (tTest (tOp rLtI (tOp (rIx K) (tVar 0) (tC (.int 1))) (tCB (rLn K) (tCons (tOp (rIx K) (tVar 0) (tC (.int 0))) tNil)))) (tAsg (tOp (rIx K) (tOp (rIx K) (tVar 0) (tC (.int 0))) (tOp (rIx K) (tVar 0) (tC (.int 1)))) (gName 3)) tNext) (tSeq (tAsg (tOp rAddI (tOp (rIx K) (tVar 0) (tC (.int 1))) (tC (.int 1))) (gSub (tVar 0) (tC (.int 1)) rSetL)) (tSeq (tIfS (tTest (tOp rGeI (tVar 3) (tOp rPowI (tC (.int 10)) (tC (.int 18))))) (tSeq (tAsg (tOp rDivI (tVar 3) (tC (.int 2))) (gSub (tVar 0) (tC (.int 2)) rSetL)) (tRet (tCall sp_law_take [] E0 (tCons (tVar 0) (tCons (tVar 1) tNil))))) tNext) (tSeq (tAsg (tOp rModI (tCB rInt1 (tCons (tOp rAddI (tOp rAddI (tOp rMulI (tOp (rIx K) (tVar 0) (tC (.int 3))) (tC (.int 48271))) (tOp rMulI (tVar 3) (tC (.int 69621)))) (tOp rMulI (tOp (rIx K) (tVar 0) (tC (.int 1))) (tC (.int 613)))) tNil)) (tC (.int 2147483647))) (gSub (tVar 0) (tC (.int 3)) rSetL)) (tSeq (tAsg (tOp rModI (tCB rInt1 (tCons (tOp rAddI (tOp rAddI (tOp rMulI (tOp (rIx K) (tVar 0) (tC (.int 3))) (tOp (rIx K) (tVar 0) (tC (.int 3)))) (tOp rMulI (tOp (rIx K) (tVar 0) (tC (.int 3))) (tC (.int 7919)))) (tC (.int 104729))) tNil)) (tC (.int 1000000007))) (gName 4)) (tRet (tOp rModI (tCB rInt1 (tCons (tOp rDivI (tVar 4) (tC (.int 3))) tNil)) (tVar 1))))))))))
def N_law_is_integer : List Str := ["_law_actual"]
theorem st_law_is_integer {v0 : V} : start N_law_is_integer [v0] = [some v0] := rfl
def t_law_is_integer (K : PySem.W.Frag) : TS := (tRet (tAndV (tCB (rIsi K) (tCons (tVar 0) (tCons (tC (.ty "int")) tNil))) (tNotV (tCB (rIsi K) (tCons (tVar 0) (tCons (tC (.ty "bool")) tNil))))))
def N_law_same : List Str := ["_law_actual", "_law_due", "_law_k"]
theorem st_law_same {v0 v1 : V} : start N_law_same [v0, v1] = [some v0, some v1, none] := rfl
def t_law_same (K : PySem.W.Frag) (sp_law_same : Sp) (sp_law_is_integer : Sp) : TS := (tSeq (tIfS (tB (tCB (rIsi K) (tCons (tVar 1) (tCons (tC (.ty "tuple")) tNil)))) (tSeq (tIfS (tOr (tNot (tB (tCB (rIsi K) (tCons (tVar 0) (tCons (tC (.ty "tuple")) tNil))))) (tTest (tOp rNe (tCB (rLn K) (tCons (tVar 0) tNil)) (tCB (rLn K) (tCons (tVar 1) tNil))))) (tRet (tC (.bl false))) tNext) (tRet (tCB (rAll K) (tCons (tLc (iRng1 (tCons (tCB (rLn K) (tCons (tVar 1) tNil)) tNil)) (gName 2) tYes (tCall sp_law_same [] E0 (tCons (tOp (rIx K) (tVar 0) (tVar 2)) (tCons (tOp (rIx K) (tVar 1) (tVar 2)) tNil))) [2]) tNil)))) tNext) (tSeq (tIfS (tB (tCB (rIsi K) (tCons (tVar 1) (tCons (tC (.ty "list")) tNil)))) (tSeq (tIfS (tOr (tNot (tB (tCB (rIsi K) (tCons (tVar 0) (tCons (tC (.ty "list")) tNil))))) (tTest (tOp rNe (tCB (rLn K) (tCons (tVar 0) tNil)) (tCB (rLn K) (tCons (tVar 1) tNil))))) (tRet (tC (.bl false))) tNext) (tRet (tCB (rAll K) (tCons (tLc (iRng1 (tCons (tCB (rLn K) (tCons (tVar 1) tNil)) tNil)) (gName 2) tYes (tCall sp_law_same [] E0 (tCons (tOp (rIx K) (tVar 0) (tVar 2)) (tCons (tOp (rIx K) (tVar 1) (tVar 2)) tNil))) [2]) tNil)))) tNext) (tSeq (tIfS (tTest (tOp rIsNone (tVar 1) (tC .non))) (tRet (tOp rIsNone (tVar 0) (tC .non))) tNext) (tSeq (tIfS (tB (tCB (rIsi K) (tCons (tVar 1) (tCons (tC (.ty "bool")) tNil)))) (tRet (tAndV (tCB (rIsi K) (tCons (tVar 0) (tCons (tC (.ty "bool")) tNil))) (tOp rEq (tVar 0) (tVar 1)))) tNext) (tSeq (tIfS (tB (tCB (rIsi K) (tCons (tVar 1) (tCons (tC (.ty "str")) tNil)))) (tRet (tAndV (tCB (rIsi K) (tCons (tVar 0) (tCons (tC (.ty "str")) tNil))) (tOp rEq (tVar 0) (tVar 1)))) tNext) (tRet (tAndV (tCall sp_law_is_integer [] E0 (tCons (tVar 0) tNil)) (tOp rEq (tVar 0) (tVar 1)))))))))
/-! ### the pool of numbers -/
class Pool (K : PySem.W.Frag) (F : Hp) (o : HO) : Prop where
  h : ∃ (c : Addr) (ks : List Int) (i b m : Int), o = .lst [.ref c, .int i, .int b, .int m] ∧ SqL K F c (ks.map V.int) ∧ ks.length ≤ 63 ∧ (∀ k ∈ ks, 0 ≤ k) ∧ 0 ≤ i ∧ 0 ≤ b ∧ 0 ≤ m ∧ m < 2147483647
theorem Pool.mono {K : PySem.W.Frag} {F F' : Hp} {o : HO} (e : Same F F') (h : Pool K F o) : Pool K F' o := by
  obtain ⟨c, ks, i, b, m, h1, h2, h3⟩ := h.h
  exact ⟨c, ks, i, b, m, h1, same_l e h2, h3⟩
instance (priority := 900) {K : PySem.W.Frag} {F F' : Hp} {o : HO} [e : Sm F F'] [h : Pool K F o] : Pool K F' o := h.mono e.h
def sp_law_pool (K : PySem.W.Frag) : Sp := fun vs H Q _ => ∃ (F : Hp) (M : Ow) (a : Addr) (ns : List Int), Hs F M H ∧ vs = [.ref a] ∧ SqL K F a (ns.map V.int) ∧ ns.length ≤ 63 ∧
  ∀ p o F' H', Same F F' → Pool K F' o → Hs F' ((p, o) :: M) H' → Q (.ref p) H'
def sp_law_take (K : PySem.W.Frag) : Sp := fun vs H Q _ => ∃ (F : Hp) (M : Ow) (p : Addr) (o : HO) (n : Int) (m : HO → Ow), Hs F M H ∧ vs = [.ref p, .int n] ∧ Cell M p m ∧ Im M p o ∧ Pool K F o ∧ 0 < n ∧ n < 18446744073709551616 ∧
  ∀ r o' H', 0 ≤ r → r < n → Pool K F o' → Hs F (m o') H' → Q (.int r) H'
/-- .. while digits are left -/
def sp_law_take0 (K : PySem.W.Frag) : Sp := fun vs H Q _ => ∃ (F : Hp) (M : Ow) (p c : Addr) (i b z : Int) (n : Int) (m : HO → Ow), Hs F M H ∧ vs = [.ref p, .int n] ∧ Cell M p m ∧ Im M p (.lst [.ref c, .int i, .int b, .int z]) ∧ 0 < b ∧ 0 < n ∧ n < 18446744073709551616 ∧
  ∀ r b' H', 0 ≤ r → r < n → 0 ≤ b' → Hs F (m (.lst [.ref c, .int i, .int b', .int z])) H' → Q (.int r) H'
/-- data that may be told twice: no floats, no dicts; how deep it is, how long its rows are -/
def dOk : Nat → PyData → Prop
  | _, .none => True
  | _, .bool _ => True
  | _, .int _ => True
  | _, .str _ => True
  | n + 1, .tuple ds => ds.length ≤ 1000000 ∧ ∀ d ∈ ds, dOk n d
  | n + 1, .list ds => ds.length ≤ 1000000 ∧ ∀ d ∈ ds, dOk n d
  | _, _ => False
/-- both are the same data: the answer is True -/
def sp_law_same (K : PySem.W.Frag) (n : Nat) : Sp := fun vs H Q _ => ∃ (F : Hp) (M : Ow) (v w : V) (d : PyData), Hs F M H ∧ vs = [v, w] ∧ Dp K F v d ∧ Dp K F w d ∧ dOk n d ∧
  ∀ F' H', Same F F' → Hs F' M H' → Q (.bl true) H'
def sp_law_is_integer : Sp := fun vs H Q _ => ∃ i : Int, vs = [.int i] ∧ Q (.bl true) H
theorem take_go {K : PySem.W.Frag} {F H : Hp} {M : Ow} {p : Addr} {o : HO} {m : HO → Ow} {n : Int} {Q : VK} {E : XK} [hs : Hs F M H] [cc : Cell M p m] [hi : Im M p o] [hP : Pool K F o] (h0 : 0 < n) (h1 : n < 18446744073709551616)
    (k : ∀ r o' H', 0 ≤ r → r < n → Pool K F o' → Hs F (m o') H' → Q (.int r) H') : sp_law_take K [.ref p, .int n] H Q E := ⟨F, M, p, o, n, m, hs, rfl, cc, hi, hP, h0, h1, k⟩
section
variable {K : PySem.W.Frag}
theorem pure_law_pool (vs : List V) (H : Hp) (Q : VK) (E : XK) (h : sp_law_pool K vs H Q E) : t_law_pool K { nx := fun _ H' => Q .non H', rt := Q } (start N_law_pool vs) H := by
  obtain ⟨F, M, a, ns, hs, rfl, hx, hl, k⟩ := h
  unfold t_law_pool
  rw [st_law_pool]
  walk_at "py"
  have : FzL K F a (ns.map V.int) := ⟨hx⟩
  refine nCompL (fun i acc F' M' => M' = M ∧ ∃ ks : List Int, acc = ks.map V.int ∧ ks.length = i ∧ ∀ k ∈ ks, 0 ≤ k) ⟨rfl, [], rfl, rfl, by simp⟩ ?_ ?_
  · rintro i x acc D F' M' H' hi e hs' ⟨rfl, ks, rfl, hk, hp⟩
    have hlen := (List.getElem?_eq_some_iff.mp hi).1
    rw [List.length_map] at hlen
    rw [List.getElem?_map] at hi
    obtain ⟨z, hz, rfl⟩ := Option.map_eq_some_iff.mp hi
    walk_at "py"
    refine ifP (fun h => ?_) (fun h => ?_)
    · walk_at "py"
      refine .mk (by walk_at "sm") hs' (by simp; omega) ⟨rfl, ks ++ [2 * z], by simp, by simp [hk], fun k hm => ?_⟩
      rcases List.mem_append.mp hm with hm | hm
      · exact hp k hm
      · rw [List.mem_singleton.mp hm]; omega
    · walk_at "py"
      refine .mk (by walk_at "sm") hs' (by simp; omega) ⟨rfl, ks ++ [-2 * z - 1], by simp, by simp [hk], fun k hm => ?_⟩
      rcases List.mem_append.mp hm with hm | hm
      · exact hp k hm
      · rw [List.mem_singleton.mp hm]; omega
  · rintro D acc F' M' H' hD e hs' ⟨rfl, ks, rfl, hk, hp⟩
    walk_at "py"
    rename_i p H2 hp1 hs2
    have hs3 := hs2.freeze (j := 1) rfl
    refine k p _ _ H2 (e.h.trans (hs2.same_freeze (j := 1) rfl)) ⟨D, ks, 0, 0, 17, rfl, .inl (.inl upd_same), by rw [hk, List.length_map]; exact hl, hp, by decide, by decide, by decide, by decide⟩ hs3
theorem pure_law_take0 (sp : Sp) (vs : List V) (H : Hp) (Q : VK) (E : XK) (h : sp_law_take0 K vs H Q E) : t_law_take K sp { nx := fun _ H' => Q .non H', rt := Q } (start N_law_take vs) H := by
  obtain ⟨F, M, p, c, i, b, z, n, m, hs, rfl, cc, hm, hb, hn, hn2, k⟩ := h
  have hw := cell_sw cc
  unfold t_law_take
  rw [st_law_take]
  walk_at "py"
  refine ifPT hb ?_
  walk_at "py"
  refine nSetL fun H' hs' => ?_
  walk_at "py"
  exact k _ _ _ (Int.emod_nonneg _ (by omega)) (Int.emod_lt_of_pos _ hn) (Int.ediv_nonneg (by omega) (by omega)) hs'
theorem pure_law_take (vs : List V) (H : Hp) (Q : VK) (E : XK) (h : sp_law_take K vs H Q E) : t_law_take K (sp_law_take0 K) { nx := fun _ H' => Q .non H', rt := Q } (start N_law_take vs) H := by
  obtain ⟨F, M, p, o, n, m, hs, rfl, cc, hm, ⟨⟨c, ks, i, b, z, rfl, hc, hl, hp, hi, hb, hz0, hz1⟩⟩, hn, hn2, k⟩ := h
  by_cases hb0 : 0 < b
  · exact pure_law_take0 _ _ _ _ E ⟨F, M, p, c, i, b, z, n, m, hs, rfl, cc, hm, hb0, hn, hn2, fun r b' H' h1 h2 h3 hs' => k r _ H' h1 h2 ⟨c, ks, i, b', z, rfl, hc, hl, hp, hi, h3, hz0, hz1⟩ hs'⟩
  · have hb1 : b = 0 := by omega
    subst hb1
    have hw := cell_sw cc
    have hw2 := cell_sw2 cc
    have hi2 := cell_im cc
    have : FzL K F c (ks.map V.int) := ⟨hc⟩
    unfold t_law_take
    rw [st_law_take]
    walk_at "py"
    refine ifPF (by omega) ?_
    walk_at "py"
    refine cutI (I := fun σ' F' M' => F' = F ∧ M' = M ∧ ∃ z1 : Int, 0 ≤ z1 ∧ σ' = [some (.ref p), some (.int n), none, some (.int z1), none]) ?_ ?_
    · walk_at "py"
      rw [List.length_map]
      refine ifP (fun h => ?_) (fun h => ?_)
      · walk_at "py"
        have h2 : i.toNat < ks.length := by omega
        refine nIxL (v := .int ks[i.toNat]) ?_ ?_
        · have e : i = ((i.toNat : Nat) : Int) := by omega
          generalize i.toNat = j at *
          subst e
          exact atI_nat (by rw [List.getElem?_map, List.getElem?_eq_getElem h2]; rfl)
        · walk_at "py"
          exact ⟨F, M, Same.refl F, hs, rfl, rfl, _, hp _ (List.getElem_mem h2), rfl⟩
      · walk_at "py"
        exact ⟨F, M, Same.refl F, hs, rfl, rfl, 0, by decide, rfl⟩
    rintro σ' F' M' H1 - hs1 ⟨rfl, rfl, z1, hz1', rfl⟩
    walk_at "py"
    refine nSetL fun H2 hs2 => ?_
    walk_at "py"
    refine ifP (fun h => ?_) (fun h => ?_)
    · walk_at "py"
      refine nSetL fun H3 hs3 => ?_
      walk_at "py"
      exact ⟨F', _, p, c, i + 1, z1 / 2, z, n, m, hs3, rfl, cell_cell cc _, hi2 _, by omega, hn, hn2, fun r b' H4 h1 h2 h3 hs4 => k r _ H4 h1 h2 ⟨c, ks, i + 1, b', z, rfl, hc, hl, hp, by omega, h3, hz0, hz1⟩ hs4⟩
    · walk_at "py"
      refine nSetL fun H3 hs3 => ?_
      generalize hm' : (z * 48271 + z1 * 69621 + (i + 1) * 613) % 2147483647 = z' at hs3
      have m0 : 0 ≤ z' := by rw [← hm']; exact Int.emod_nonneg _ (by omega)
      have m1 : z' < 2147483647 := by rw [← hm']; exact Int.emod_lt_of_pos _ (by omega)
      walk_at "py"
      exact k _ _ H3 (Int.emod_nonneg _ (by omega)) (Int.emod_lt_of_pos _ hn) ⟨c, ks, i + 1, 0, z', rfl, hc, hl, hp, by omega, by omega, m0, m1⟩ hs3
theorem pure_law_is_integer (vs : List V) (H : Hp) (Q : VK) (E : XK) (h : sp_law_is_integer vs H Q E) : t_law_is_integer K { nx := fun _ H' => Q .non H', rt := Q } (start N_law_is_integer vs) H := by
  obtain ⟨i, rfl, k⟩ := h
  unfold t_law_is_integer
  rw [st_law_is_integer]
  walk_at "py"
  exact k
theorem pure_law_same (n : Nat) (sp : Sp) (hsp : ∀ m, n = m + 1 → ∀ vs H Q E, sp_law_same K m vs H Q E → sp vs H Q E) (vs : List V) (H : Hp) (Q : VK) (E : XK) (h : sp_law_same K n vs H Q E) :
    t_law_same K sp sp_law_is_integer { nx := fun _ H' => Q .non H', rt := Q } (start N_law_same vs) H := by
  obtain ⟨F, M, v, w, d, hs, rfl, hv, hw, hd, k⟩ := h
  unfold t_law_same
  rw [st_law_same]
  cases hv with
  | non =>
    cases hw
    walk_at "py"
    exact k F H (Same.refl F) hs
  | bl b =>
    cases hw
    walk_at "py"
    rw [decide_eq_true rfl]
    exact k F H (Same.refl F) hs
  | int i =>
    cases hw
    walk_at "py"
    refine ⟨i, rfl, ?_⟩
    walk_at "py"
    rw [decide_eq_true rfl]
    exact k F H (Same.refl F) hs
  | str x =>
    cases hw
    walk_at "py"
    rw [decide_eq_true rfl]
    exact k F H (Same.refl F) hs
  | @lst a xs ds hx hr =>
    cases hw with
    | @lst b ys _ hy hq =>
      obtain _ | n := n
      · exact hd.elim
      obtain ⟨hl, hd⟩ := hd
      have : FzL K F a xs := ⟨hx⟩
      have : FzL K F b ys := ⟨hy⟩
      walk_at "py"
      refine ifNF ?_ ?_
      · rw [dpa_len hr, dpa_len hq]
      have := dpa_len hq
      walk_at "py"
      refine nCompR (fun i acc F' M' => M' = M ∧ acc = List.replicate i (V.bl true)) ⟨rfl, rfl⟩ ?_ ?_
      · rintro i acc D F' M' H' hi hF hs' ⟨rfl, rfl⟩
        obtain ⟨v1, d1, e1, e2, e3⟩ := dpa_get (i := i) hr (by omega)
        obtain ⟨v2, d2, e4, e5, e6⟩ := dpa_get (i := i) hq (by omega)
        rw [e2] at e5; cases e5
        have a1 : At xs (0 + (i : Int)) v1 := ⟨by rw [Int.zero_add]; exact atI_nat e1⟩
        have a2 : At ys (0 + (i : Int)) v2 := ⟨by rw [Int.zero_add]; exact atI_nat e4⟩
        walk_at "py"
        refine hsp n rfl _ _ _ _ ⟨F', _, v1, v2, d1, hs', rfl, dp_mono hF.h e3, dp_mono hF.h e6, hd _ (List.mem_of_getElem? e2), fun F2 H2 e7 hs2 => ?_⟩
        exact .mk (hF.h.trans e7) hs2 (by simp; omega) ⟨rfl, by rw [List.replicate_succ']⟩
      · rintro D acc F' M' H' hD hF hs' ⟨rfl, rfl⟩
        walk_at "py"
        refine nAllT ?_
        exact k F' H' hF.h (hs'.drop 0)
  | @tup a xs ds hx hr =>
    cases hw with
    | @tup b ys _ hy hq =>
      obtain _ | n := n
      · exact hd.elim
      obtain ⟨hl, hd⟩ := hd
      have : FzT K F a xs := ⟨hx⟩
      have : FzT K F b ys := ⟨hy⟩
      walk_at "py"
      refine ifNF ?_ ?_
      · rw [dpa_len hr, dpa_len hq]
      have := dpa_len hq
      walk_at "py"
      refine nCompR (fun i acc F' M' => M' = M ∧ acc = List.replicate i (V.bl true)) ⟨rfl, rfl⟩ ?_ ?_
      · rintro i acc D F' M' H' hi hF hs' ⟨rfl, rfl⟩
        obtain ⟨v1, d1, e1, e2, e3⟩ := dpa_get (i := i) hr (by omega)
        obtain ⟨v2, d2, e4, e5, e6⟩ := dpa_get (i := i) hq (by omega)
        rw [e2] at e5; cases e5
        have a1 : At xs (0 + (i : Int)) v1 := ⟨by rw [Int.zero_add]; exact atI_nat e1⟩
        have a2 : At ys (0 + (i : Int)) v2 := ⟨by rw [Int.zero_add]; exact atI_nat e4⟩
        walk_at "py"
        refine hsp n rfl _ _ _ _ ⟨F', _, v1, v2, d1, hs', rfl, dp_mono hF.h e3, dp_mono hF.h e6, hd _ (List.mem_of_getElem? e2), fun F2 H2 e7 hs2 => ?_⟩
        exact .mk (hF.h.trans e7) hs2 (by simp; omega) ⟨rfl, by rw [List.replicate_succ']⟩
      · rintro D acc F' M' H' hD hF hs' ⟨rfl, rfl⟩
        walk_at "py"
        refine nAllT ?_
        exact k F' H' hF.h (hs'.drop 0)
end
end Sh


set_option Elab.async false
set_option linter.all false
set_option maxRecDepth 100000
set_option maxHeartbeats 4000000
namespace Sh
open PySem PySem.Spec PyProof.Rows L2
/-! the steps, by themselves as far as nothing is to be decided -/
set_option synthInstance.maxSize 4096
set_option synthInstance.maxHeartbeats 400000
local macro_rules | `(tactic| walk_at "sm") => `(tactic| first | assumption | exact Same.refl _ | exact Sm.h | (refine Same.trans ?_ Sm.h; walk_at "sm"))
local macro_rules | `(tactic| walk_at "py1") => `(tactic| first
  | refine go ?_
  | (with_reducible refine py_mulL (by omega) (by omega) ?_) | (with_reducible refine py_mulR (by omega) (by omega) ?_) | (with_reducible refine py_divI (by omega) (by omega) ?_) | (with_reducible refine py_modI (by omega) ?_)
  | (with_reducible refine nSet_mk ?_; intro _ _) | (with_reducible refine nTupF (by simp) ?_; intro _ _ _ _ _ _ _ _) | (with_reducible refine nLstO (by simp) ?_; intro _ _ _ _)
  | (with_reducible refine nRng1_mk (by omega) (by omega) ?_) | (with_reducible refine nRng2_mk (by omega) (by omega) (by omega) (by omega) ?_))
local macro_rules | `(tactic| walk_at "py") => `(tactic| repeat (walk_at "py1"))
def N_Cutter_init : List Str := ["self"]
theorem st_Cutter_init {v0 : V} : start N_Cutter_init [v0] = [some v0] := rfl
def t_Cutter_init (K : PySem.W.Frag) : TS := (tSeq (sFld K (tVar 0) (tLst tNil) "found") (tSeq (sFld K (tVar 0) (tC (.int 0)) "_first") (tSeq (sFld K (tVar 0) (tC (.int 0)) "_step") (sFld K (tVar 0) (tC (.int 0)) "_count"))))
def N_Cutter_end : List Str := ["self"]
theorem st_Cutter_end {v0 : V} : start N_Cutter_end [v0] = [some v0] := rfl
def t_Cutter_end (K : PySem.W.Frag) : TS := (tSeq (tIfS (tTest (tOp rGtI (tFld K (tVar 0) "_count") (tC (.int 0)))) (tDrop (tBM K "list" rAppend (tFld K (tVar 0) "found") (tCons (tTup (tCons (tFld K (tVar 0) "_first") (tCons (tFld K (tVar 0) "_step") (tCons (tFld K (tVar 0) "_count") tNil)))) tNil))) tNext) (sFld K (tVar 0) (tC (.int 0)) "_count"))
def N_Cutter_begin : List Str := ["self", "number"]
theorem st_Cutter_begin {v0 v1 : V} : start N_Cutter_begin [v0, v1] = [some v0, some v1] := rfl
def t_Cutter_begin (K : PySem.W.Frag) (sp_Cutter_end : Sp) : TS := (tSeq (tDrop (tMeth (He.ga K "Cutter") "_end" sp_Cutter_end [] E0 (tVar 0) tNil)) (tSeq (sFld K (tVar 0) (tVar 1) "_first") (tSeq (sFld K (tVar 0) (tC (.int 0)) "_step") (sFld K (tVar 0) (tC (.int 1)) "_count"))))
def N_Cutter_progressions : List Str := ["self"]
theorem st_Cutter_progressions {v0 : V} : start N_Cutter_progressions [v0] = [some v0] := rfl
def t_Cutter_progressions (K : PySem.W.Frag) (sp_Cutter_end : Sp) : TS := (tSeq (tDrop (tMeth (He.ga K "Cutter") "_end" sp_Cutter_end [] E0 (tVar 0) tNil)) (tRet (tCB (rTupleOf K) (tCons (tFld K (tVar 0) "found") tNil))))
def N_Cutter_add : List Str := ["self", "first", "step", "count", "many"]
theorem st_Cutter_add {v0 v1 v2 v3 : V} : start N_Cutter_add [v0, v1, v2, v3] = [some v0, some v1, some v2, some v3, none] := rfl
def t_Cutter_add (K : PySem.W.Frag) (sp_Cutter_begin : Sp) : TS := (tWhile (tTest (tOp rGtI (tVar 3) (tC (.int 0)))) (tSeq (tAsg (tC (.int 1)) (gName 4)) (tSeq (tIfS (tTest (tOp rEq (tFld K (tVar 0) "_count") (tC (.int 0)))) (tDrop (tMeth (He.ga K "Cutter") "_begin" sp_Cutter_begin [] E0 (tVar 0) (tCons (tVar 1) tNil))) (tIfS (tTest (tOp rEq (tFld K (tVar 0) "_count") (tC (.int 1)))) (tSeq (sFld K (tVar 0) (tOp rSubI (tVar 1) (tFld K (tVar 0) "_first")) "_step") (sFld K (tVar 0) (tC (.int 2)) "_count")) (tIfS (tTest (tOp rNe (tVar 1) (tOp rAddI (tFld K (tVar 0) "_first") (tOp rMulI (tFld K (tVar 0) "_step") (tFld K (tVar 0) "_count"))))) (tDrop (tMeth (He.ga K "Cutter") "_begin" sp_Cutter_begin [] E0 (tVar 0) (tCons (tVar 1) tNil))) (tSeq (tAsg (tIf (tTest (tOp rEq (tVar 2) (tFld K (tVar 0) "_step"))) (tVar 3) (tC (.int 1))) (gName 4)) (sFld K (tVar 0) (tOp rAddI (tFld K (tVar 0) "_count") (tVar 4)) "_count"))))) (tSeq (tAsg (tOp rAddI (tVar 1) (tOp rMulI (tVar 2) (tVar 4))) (gName 1)) (tAsg (tOp rSubI (tVar 3) (tVar 4)) (gName 3))))))
def N_cut : List Str := ["rows", "cutter", "first", "step", "count"]
theorem st_cut {v0 : V} : start N_cut [v0] = [some v0, none, none, none, none] := rfl
def t_cut (K : PySem.W.Frag) (sp_Cutter_init : Sp) (sp_Cutter_add : Sp) (sp_Cutter_progressions : Sp) : TS := (tSeq (tAsg (tMake (He.ga K "Cutter") sp_Cutter_init [] E0 tNil) (gName 1)) (tSeq (tFor (iLT K (tVar 0)) (gTup K 3 (gCons (gName 2) (gCons (gName 3) (gCons (gName 4) gNil)))) (tDrop (tMeth (He.ga K "Cutter") "add" sp_Cutter_add [] E0 (tVar 1) (tCons (tVar 2) (tCons (tVar 3) (tCons (tVar 4) tNil)))))) (tRet (tMeth (He.ga K "Cutter") "progressions" sp_Cutter_progressions [] E0 (tVar 1) tNil))))
/-! ### Cutter -/
def ns_Cutter : List Str := ["found", "_first", "_step", "_count"]
instance : Fx ns_Cutter "found" 0 := ⟨rfl⟩
instance : Fx ns_Cutter "_first" 1 := ⟨rfl⟩
instance : Fx ns_Cutter "_step" 2 := ⟨rfl⟩
instance : Fx ns_Cutter "_count" 3 := ⟨rfl⟩
instance : Nf ns_Cutter "add" := ⟨by decide +kernel⟩
instance : Nf ns_Cutter "_end" := ⟨by decide +kernel⟩
instance : Nf ns_Cutter "_begin" := ⟨by decide +kernel⟩
instance : Nf ns_Cutter "progressions" := ⟨by decide +kernel⟩
section
variable (K : PySem.W.Frag)
/-- the cutter: its list at q, itself at p, then what else is owned -/
abbrev CutM (K : PySem.W.Frag) (q p dx : Addr) (ts : List V) (f s c : Int) (M : Ow) : Ow := (q, HO.lst ts) :: (p, Ob (He.ga K "Cutter") dx ns_Cutter [.ref q, .int f, .int s, .int c]) :: M
def sp_Cutter_init : Sp := fun vs H Q _ => ∃ (F : Hp) (M : Ow) (p dx : Addr), Hs F ((p, Ob (He.ga K "Cutter") dx ns_Cutter []) :: M) H ∧ vs = [.ref p] ∧ ∀ q H', Hs F (CutM K q p dx [] 0 0 0 M) H' → Q .non H'
/-- behind _end -/
def endL (l : List Tr) (f s c : Int) : List Tr := if 0 < c then l ++ [(f, s, c)] else l
def sp_Cutter_end : Sp := fun vs H Q _ => ∃ (F : Hp) (M : Ow) (q p dx : Addr) (ts : List V) (l : List Tr) (f s c : Int), Hs F (CutM K q p dx ts f s c M) H ∧ vs = [.ref p] ∧ DpAll K F ts (l.map trD) ∧ l.length < 1000000 ∧
  ∀ F' ts' H', Same F F' → Hs F' (CutM K q p dx ts' f s 0 M) H' → DpAll K F' ts' ((endL l f s c).map trD) → Q .non H'
def sp_Cutter_begin : Sp := fun vs H Q _ => ∃ (F : Hp) (M : Ow) (q p dx : Addr) (ts : List V) (l : List Tr) (f s c x : Int), Hs F (CutM K q p dx ts f s c M) H ∧ vs = [.ref p, .int x] ∧ DpAll K F ts (l.map trD) ∧ l.length < 1000000 ∧
  ∀ F' ts' H', Same F F' → Hs F' (CutM K q p dx ts' x 0 1 M) H' → DpAll K F' ts' ((endL l f s c).map trD) → Q .non H'
/-- what the object says of the state -/
def CutIs (z : Cs) (l : List Tr) (f s c : Int) : Prop := match z with
  | none => l = [] ∧ c = 0
  | some (l', (f', s', c')) => l = l' ∧ f = f' ∧ s = s' ∧ c = c'
def sp_Cutter_add : Sp := fun vs H Q _ => ∃ (F : Hp) (M : Ow) (q p dx : Addr) (ts : List V) (l : List Tr) (f s c : Int) (z : Cs) (x y : Int) (n : Nat), Hs F (CutM K q p dx ts f s c M) H ∧ vs = [.ref p, .int x, .int y, .int n] ∧ DpAll K F ts (l.map trD) ∧ CutIs z l f s c ∧ cOk z ∧ l.length ≤ 100000 ∧ c + n ≤ 4611686018427387904 ∧
  ∀ F' ts' l' f' s' c' H', Same F F' → Hs F' (CutM K q p dx ts' f' s' c' M) H' → DpAll K F' ts' (l'.map trD) → CutIs ((nums x y n).foldl cstep z) l' f' s' c' → l'.length ≤ l.length + 3 → c' ≤ c + n → Q .non H'
def sp_Cutter_progressions : Sp := fun vs H Q _ => ∃ (F : Hp) (M : Ow) (q p dx : Addr) (ts : List V) (l : List Tr) (f s c : Int), Hs F (CutM K q p dx ts f s c M) H ∧ vs = [.ref p] ∧ DpAll K F ts (l.map trD) ∧ l.length < 1000000 ∧
  ∀ F' t ts' H', Same F F' → Hs F' M H' → FzT K F' t ts' → DpAll K F' ts' ((endL l f s c).map trD) → Q (.ref t) H'
/-- the rows, a list or a tuple -/
def sp_cut : Sp := fun vs H Q _ => ∃ (F : Hp) (M : Ow) (a : Addr) (xs : List V) (rows : List Tr), Hs F M H ∧ vs = [.ref a] ∧ (SqL K F a xs ∨ SqT K F a xs) ∧ DpAll K F xs (rows.map trD) ∧ rows.length ≤ 10000 ∧ (∀ t ∈ rows, 1 ≤ t.2.2) ∧ cntT rows ≤ 4611686018427387904 ∧
  ∀ F' t ts' H', Same F F' → Hs F' M H' → FzT K F' t ts' → DpAll K F' ts' ((cutR rows).map trD) → Q (.ref t) H'
end
section
variable {K : PySem.W.Frag}
theorem pure_Cutter_init [ClsF K (He.ga K "Cutter") ns_Cutter] (vs : List V) (H : Hp) (Q : VK) (E : XK) (h : sp_Cutter_init K vs H Q E) : t_Cutter_init K { nx := fun _ H' => Q .non H', rt := Q } (start N_Cutter_init vs) H := by
  obtain ⟨F, M, p, dx, hs, rfl, k⟩ := h
  unfold t_Cutter_init
  rw [st_Cutter_init]
  walk_at "py"
  rename_i q H1 hq hs1
  refine nSet_new (ns := ns_Cutter) rfl fun H2 hs2 => ?_
  walk_at "py"
  refine nSet_new (ns := ns_Cutter) rfl fun H2 hs2 => ?_
  walk_at "py"
  refine nSet_new (ns := ns_Cutter) rfl fun H2 hs2 => ?_
  walk_at "py"
  refine nSet_new (ns := ns_Cutter) rfl fun H2 hs2 => ?_
  exact k _ _ hs2
theorem pure_Cutter_end [ClsF K (He.ga K "Cutter") ns_Cutter] (vs : List V) (H : Hp) (Q : VK) (E : XK) (h : sp_Cutter_end K vs H Q E) : t_Cutter_end K { nx := fun _ H' => Q .non H', rt := Q } (start N_Cutter_end vs) H := by
  obtain ⟨F, M, q, p, dx, ts, l, f, s, c, hs, rfl, hd, hl, k⟩ := h
  unfold t_Cutter_end
  rw [st_Cutter_end]
  walk_at "py"
  have := dpa_len hd
  rw [List.length_map] at this
  refine ifP (fun hc => ?_) (fun hc => ?_)
  · walk_at "py"
    rename_i t F1 H1 ht hF hs1 hT hz
    refine nAppend (by omega) fun H2 hs2 => ?_
    walk_at "py"
    rename_i H3 hs3
    refine k F1 _ H3 hF.h hs3 ?_
    rw [show endL l f s c = l ++ [(f, s, c)] from if_pos hc, List.map_append]
    exact dpa_app (dpa_mono hF.h hd) (.cons (dp_trI (hT K).h) .nil)
  · walk_at "py"
    rename_i H3 hs3
    refine k F _ H3 (Same.refl F) hs3 ?_
    rw [show endL l f s c = l from if_neg hc]
    exact hd
theorem pure_Cutter_begin [ClsF K (He.ga K "Cutter") ns_Cutter] (vs : List V) (H : Hp) (Q : VK) (E : XK) (h : sp_Cutter_begin K vs H Q E) : t_Cutter_begin K (sp_Cutter_end K) { nx := fun _ H' => Q .non H', rt := Q } (start N_Cutter_begin vs) H := by
  obtain ⟨F, M, q, p, dx, ts, l, f, s, c, x, hs, rfl, hd, hl, k⟩ := h
  unfold t_Cutter_begin
  rw [st_Cutter_begin]
  walk_at "py"
  refine ⟨F, M, q, p, dx, ts, l, f, s, c, hs, rfl, hd, hl, fun F1 ts' H1 hF hs1 hd1 => ?_⟩
  walk_at "py"
  rename_i H3 hs3
  exact k F1 _ H3 hF hs3 hd1
theorem pure_Cutter_progressions [ClsF K (He.ga K "Cutter") ns_Cutter] (vs : List V) (H : Hp) (Q : VK) (E : XK) (h : sp_Cutter_progressions K vs H Q E) : t_Cutter_progressions K (sp_Cutter_end K) { nx := fun _ H' => Q .non H', rt := Q } (start N_Cutter_progressions vs) H := by
  obtain ⟨F, M, q, p, dx, ts, l, f, s, c, hs, rfl, hd, hl, k⟩ := h
  unfold t_Cutter_progressions
  rw [st_Cutter_progressions]
  walk_at "py"
  refine ⟨F, M, q, p, dx, ts, l, f, s, c, hs, rfl, hd, hl, fun F1 ts' H1 hF hs1 hd1 => ?_⟩
  walk_at "py"
  refine nTupleOfO fun t F2 H2 ht hF2 hs2 hT hz => ?_
  exact k F2 t ts' H2 (hF.trans hF2.h) ((hs2.drop 0).drop 0) hT (dpa_mono hF2.h hd1)
theorem cutIs_pos {z : Cs} {l : List Tr} {f s c : Int} (h : CutIs z l f s c) (hz : cOk z) : 0 ≤ c := by
  match z, h, hz with
  | none, h, _ => rw [h.2]; decide
  | some (l', (f', s', c')), h, hz => obtain ⟨_, _, _, rfl⟩ := h; have := hz.1; omega
theorem cutIs_some {z : Cs} {l : List Tr} {f s c : Int} (h : CutIs z l f s c) (hc : ¬ c = 0) : z = some (l, (f, s, c)) := by
  match z, h with
  | none, h => exact absurd h.2 hc
  | some (l', (f', s', c')), h => obtain ⟨rfl, rfl, rfl, rfl⟩ := h; rfl
theorem cutIs_none {z : Cs} {l : List Tr} {f s c : Int} (h : CutIs z l f s c) (hz : cOk z) (hc : c = 0) : z = none ∧ l = [] := by
  match z, h, hz with
  | none, h, _ => exact ⟨rfl, h.1⟩
  | some (l', (f', s', c')), h, hz => obtain ⟨_, _, _, rfl⟩ := h; have := hz.1; omega
theorem pure_Cutter_add [ClsF K (He.ga K "Cutter") ns_Cutter] (vs : List V) (H : Hp) (Q : VK) (E : XK) (h : sp_Cutter_add K vs H Q E) : t_Cutter_add K (sp_Cutter_begin K) { nx := fun _ H' => Q .non H', rt := Q } (start N_Cutter_add vs) H := by
  obtain ⟨F, M, q, p, dx, ts, l, f, s, c, z, x, y, n, hs, rfl, hd, hz, hok, hl, hn, k⟩ := h
  have hc0 := cutIs_pos hz hok
  unfold t_Cutter_add
  rw [st_Cutter_add]
  refine whileI (fun m σ' F' M' => ∃ (i : Nat) (w : Option V) (ts1 : List V) (l1 : List Tr) (f1 s1 c1 : Int), i ≤ n ∧ m = n - i ∧ σ' = [some (.ref p), some (.int (x + y * i)), some (.int y), some (.int (n - i)), w] ∧ M' = CutM K q p dx ts1 f1 s1 c1 M ∧
    DpAll K F' ts1 (l1.map trD) ∧ CutIs ((nums x y i).foldl cstep z) l1 f1 s1 c1 ∧ l1.length ≤ l.length + i ∧ l1.length ≤ l.length + 3 ∧ c1 ≤ c + i ∧ (i ≤ 3 ∨ i = n)) n ⟨0, none, ts, l, f, s, c, Nat.zero_le _, rfl, by simp, rfl, hd, hz, by omega, by omega, by omega, .inl (by omega)⟩ ?_
  rintro m σ' F' M' H' hF hs' ⟨i, w, ts1, l1, f1, s1, c1, hi, rfl, rfl, rfl, hd1, hz1, hl1, hl3, hc1, hi3⟩
  have hok1 := fold_ok (nums x y i) hok
  have hc10 := cutIs_pos hz1 hok1
  have h3 : i = 3 → ¬ c1 = 0 ∧ ¬ c1 = 1 ∧ x + y * i = f1 + s1 * c1 ∧ y = s1 := fun e => by
    subst e
    have r := run_of hok x y 3 (Nat.le_refl _)
    have la := fold_last y 2 x z
    have hc : ¬ c1 = 0 := fun e => by
      rw [(cutIs_none hz1 hok1 e).1] at r; exact r
    rw [cutIs_some hz1 hc] at r
    rw [cutIs_some hz1 hc] at la
    obtain ⟨rfl, r2⟩ := r
    simp only [cLast] at la
    refine ⟨hc, by omega, ?_, rfl⟩
    rw [Int.mul_sub, Int.mul_one] at la
    show x + s1 * 3 = f1 + s1 * c1
    have : s1 * ((2 : Nat) : Int) = s1 * 2 := rfl
    omega
  walk_at "py"
  refine whP (fun h => ?_) (fun h => ?_)
  · have hin : i < n := by omega
    have next : ∀ (w' : Option V) (ts2 : List V) (l2 : List Tr) (f2 s2 c2 : Int) (F2 : Hp) (H2 : Hp) (X Y : Int), i ≤ 2 → Same F F2 → Hs F2 (CutM K q p dx ts2 f2 s2 c2 M) H2 → DpAll K F2 ts2 (l2.map trD) → CutIs (cstep ((nums x y i).foldl cstep z) (x + y * i)) l2 f2 s2 c2 → l2.length ≤ l1.length + 1 → c2 ≤ c1 + 1 ∨ c2 = 1 →
        X = x + y * i + y * 1 → Y = n - i - 1 →
        WvH F (fun m σ' F' M' => ∃ (i : Nat) (w : Option V) (ts1 : List V) (l1 : List Tr) (f1 s1 c1 : Int), i ≤ n ∧ m = n - i ∧ σ' = [some (.ref p), some (.int (x + y * i)), some (.int y), some (.int (n - i)), w] ∧ M' = CutM K q p dx ts1 f1 s1 c1 M ∧
          DpAll K F' ts1 (l1.map trD) ∧ CutIs ((nums x y i).foldl cstep z) l1 f1 s1 c1 ∧ l1.length ≤ l.length + i ∧ l1.length ≤ l.length + 3 ∧ c1 ≤ c + i ∧ (i ≤ 3 ∨ i = n)) (n - i) [some (.ref p), some (.int X), some (.int y), some (.int Y), w'] H2 := by
      intro w' ts2 l2 f2 s2 c2 F2 H2 X Y h2 e2 hs2 d2 z2 g2 g3 eX eY
      subst eX eY
      refine .mk (m' := n - (i + 1)) (by omega) e2 hs2 ⟨i + 1, w', ts2, l2, f2, s2, c2, by omega, rfl, ?_, rfl, d2, ?_, by omega, by omega, by omega, .inl (by omega)⟩
      · rw [show x + y * i + y * 1 = x + y * ((i + 1 : Nat) : Int) by rw [Int.natCast_add, Int.mul_add]; simp; omega, show (n : Int) - i - 1 = n - ((i + 1 : Nat) : Int) by omega]
      · rw [nums_snoc, List.foldl_append]; exact z2
    walk_at "py"
    refine ifP (fun h0 => ?_) (fun h0 => ?_)
    · have i2 : i ≤ 2 := by
        rcases hi3 with hi3 | hi3
        · by_cases e : i = 3
          · exact absurd h0 (h3 e).1
          · omega
        · omega
      obtain ⟨ez, el⟩ := cutIs_none hz1 hok1 h0
      walk_at "py"
      refine ⟨F', M, q, p, dx, ts1, l1, f1, s1, c1, _, hs', rfl, hd1, by omega, fun F2 ts2 H2 e2 hs2 d2 => ?_⟩
      walk_at "py"
      refine next _ ts2 _ _ _ _ F2 H2 _ _ i2 (hF.h.trans e2) hs2 d2 ?_ ?_ (.inr rfl) rfl rfl
      · rw [ez, el, h0]; exact ⟨rfl, rfl, rfl, rfl⟩
      · rw [h0]; exact Nat.le_succ _
    · have ez := cutIs_some hz1 h0
      walk_at "py"
      refine ifP (fun h1 => ?_) (fun h1 => ?_)
      · have i2 : i ≤ 2 := by
          rcases hi3 with hi3 | hi3
          · by_cases e : i = 3
            · exact absurd h1 (h3 e).2.1
            · omega
          · omega
        walk_at "py"
        rename_i H2 hs2
        refine next _ ts1 l1 f1 _ 2 F' H2 _ _ i2 hF.h hs2 hd1 ?_ (by omega) (.inl (by omega)) rfl rfl
        rw [ez, cs1 h1]; exact ⟨rfl, rfl, rfl, rfl⟩
      · walk_at "py"
        refine ifN (fun h2 => ?_) (fun h2 => ?_)
        · have i2 : i ≤ 2 := by
            rcases hi3 with hi3 | hi3
            · by_cases e : i = 3
              · exact absurd (h3 e).2.2.1 h2
              · omega
            · omega
          walk_at "py"
          refine ⟨F', M, q, p, dx, ts1, l1, f1, s1, c1, _, hs', rfl, hd1, by omega, fun F2 ts2 H2 e2 hs2 d2 => ?_⟩
          walk_at "py"
          refine next _ ts2 _ _ _ _ F2 H2 _ _ i2 (hF.h.trans e2) hs2 d2 ?_ ?_ (.inr rfl) rfl rfl
          · rw [ez, cs3 h1 h2, show endL l1 f1 s1 c1 = l1 ++ [(f1, s1, c1)] from if_pos (by omega)]; exact ⟨rfl, rfl, rfl, rfl⟩
          · rw [show endL l1 f1 s1 c1 = l1 ++ [(f1, s1, c1)] from if_pos (by omega)]; simp
        · walk_at "py"
          refine ifP (fun h4 => ?_) (fun h4 => ?_)
          · subst h4
            walk_at "py"
            rename_i H2 hs2
            refine .mk (m' := n - n) (by omega) hF.h hs2 ⟨n, some (.int (n - i)), ts1, l1, f1, y, c1 + (n - i), Nat.le_refl _, rfl, ?_, rfl, hd1, ?_, by omega, by omega, by omega, .inr rfl⟩
            · rw [show x + y * i + y * (n - i) = x + y * n by rw [Int.mul_sub]; omega, show (n : Int) - i - (n - i) = n - n by omega]
            · obtain ⟨d, rfl⟩ : ∃ d, n = i + d := ⟨n - i, by omega⟩
              rw [nums_add, List.foldl_append, ez, h2, fold_rest (by omega), show (c1 + (((i + d : Nat) : Int) - i)) = c1 + d by omega]
              exact ⟨rfl, rfl, rfl, rfl⟩
          · have i2 : i ≤ 2 := by
              rcases hi3 with hi3 | hi3
              · by_cases e : i = 3
                · exact absurd (h3 e).2.2.2 h4
                · omega
              · omega
            walk_at "py"
            rename_i H2 hs2
            refine next _ ts1 l1 f1 s1 _ F' H2 _ _ i2 hF.h hs2 hd1 ?_ (by omega) (.inl (by omega)) rfl rfl
            rw [ez, cs2 h1 h2]; exact ⟨rfl, rfl, rfl, rfl⟩
  · have e : i = n := by omega
    subst e
    exact k F' ts1 l1 f1 s1 c1 H' hF.h hs' hd1 hz1 hl3 hc1
theorem endL_is {z : Cs} {l : List Tr} {f s c : Int} (h : CutIs z l f s c) (hz : cOk z) : endL l f s c = clist z := by
  by_cases hc : c = 0
  · obtain ⟨rfl, rfl⟩ := cutIs_none h hz hc
    rw [hc]; rfl
  · have := cutIs_pos h hz
    rw [cutIs_some h hc]
    exact if_pos (by omega)
theorem cnt_take : ∀ {rows : List Tr} {i : Nat} {t : Tr}, rows[i]? = some t → cntT (rows.take (i + 1)) = cntT (rows.take i) + t.2.2
  | [], _, _, h => by simp at h
  | r :: rows, 0, t, h => by simp at h; subst h; simp [cntT]
  | r :: rows, i + 1, t, h => by
    have ih := cnt_take (rows := rows) (i := i) (by simpa using h)
    simp only [cntT, List.take_succ_cons, List.map_cons, List.sum_cons] at ih ⊢
    omega
theorem cnt_le : ∀ {rows : List Tr} (i : Nat), (∀ t ∈ rows, 1 ≤ t.2.2) → cntT (rows.take i) ≤ cntT rows
  | [], _, _ => by simp
  | r :: rows, 0, h => by
    have := cnt_le (rows := rows) 0 fun t ht => h t (List.mem_cons_of_mem _ ht)
    have := h r List.mem_cons_self
    simp only [cntT, List.take_zero, List.map_nil, List.sum_nil, List.map_cons, List.sum_cons] at *
    omega
  | r :: rows, i + 1, h => by
    have := cnt_le (rows := rows) i fun t ht => h t (List.mem_cons_of_mem _ ht)
    simp only [cntT, List.take_succ_cons, List.map_cons, List.sum_cons] at *
    omega
theorem pure_cut [ClsF K (He.ga K "Cutter") ns_Cutter] (vs : List V) (H : Hp) (Q : VK) (E : XK) (h : sp_cut K vs H Q E) : t_cut K (sp_Cutter_init K) (sp_Cutter_add K) (sp_Cutter_progressions K) { nx := fun _ H' => Q .non H', rt := Q } (start N_cut vs) H := by
  obtain ⟨F, M, a, xs, rows, hs, rfl, hx, hd, hl, hp, hn, k⟩ := h
  unfold t_cut
  rw [st_cut]
  walk_at "py"
  refine nMake_mk (ns := ns_Cutter) fun p dx F1 H1 hp1 hF1 hs1 => ?_
  refine ⟨F1, M, p, dx, hs1, rfl, fun q H2 hs2 => ⟨rfl, ?_⟩⟩
  walk_at "py"
  have hx1 : SqL K F1 a xs ∨ SqT K F1 a xs := hx.imp (same_l hF1.h) (same_t hF1.h)
  have hd1 := dpa_mono hF1.h hd
  have hlen : xs.length = rows.length := by rw [dpa_len hd, List.length_map]
  refine nLoopLT (fun i σ' F' M' => ∃ (ts : List V) (l : List Tr) (f s c : Int) (w1 w2 w3 : Option V), M' = CutM K q p dx ts f s c M ∧ σ' = [some (.ref a), some (.ref p), w1, w2, w3] ∧ DpAll K F' ts (l.map trD) ∧
    CutIs (((rows.take i).map numsT).flatten.foldl cstep none) l f s c ∧ l.length ≤ 3 * i ∧ c ≤ cntT (rows.take i)) hx1 ⟨[], [], 0, 0, 0, none, none, none, rfl, rfl, .nil, ⟨rfl, rfl⟩, by simp, by simp [cntT]⟩ ?_ ?_
  · rintro i x σ' F' M' H' hi hF hs' ⟨ts, l, f, s, c, w1, w2, w3, rfl, rfl, hd2, hz, hl2, hc⟩
    have hil := (List.getElem?_eq_some_iff.mp hi).1
    obtain ⟨d, e1, e2⟩ := dpa_at hd1 hi
    rw [List.getElem?_map] at e1
    obtain ⟨⟨u, v, w⟩, ht, rfl⟩ := Option.map_eq_some_iff.mp e1
    obtain ⟨b, rfl, hb⟩ := dp_tr e2
    have : FzT K F' b [.int u, .int v, .int w] := ⟨same_t hF.h hb⟩
    have hw : 1 ≤ w := hp _ (List.mem_of_getElem? ht)
    have ct : cntT (rows.take (i + 1)) = cntT (rows.take i) + w := cnt_take ht
    have cl := cnt_le (i + 1) hp
    walk_at "py"
    refine ⟨F', M, q, p, dx, ts, l, f, s, c, _, u, v, w.toNat, hs', by rw [show ((w.toNat : Nat) : Int) = w by omega]; rfl, hd2, hz, fold_ok _ trivial, by omega, by omega, fun F2 ts2 l2 f2 s2 c2 H3 e2 hs3 hd3 hz3 g1 g2 => ?_⟩
    refine .mk (hF.h.trans e2) hs3 ⟨ts2, l2, f2, s2, c2, _, _, _, rfl, rfl, hd3, ?_, by omega, by omega⟩
    rw [List.take_add_one, ht, List.map_append, List.flatten_append, List.foldl_append]
    simpa [numsT] using hz3
  · rintro σ' F' M' H' hF hs' ⟨ts, l, f, s, c, w1, w2, w3, rfl, rfl, hd2, hz, hl2, hc⟩
    rw [List.take_of_length_le (by omega)] at hz
    walk_at "py"
    refine ⟨F', M, q, p, dx, ts, l, f, s, c, hs', rfl, hd2, by omega, fun F2 t ts2 H3 e2 hs3 hT hd3 => ?_⟩
    rw [endL_is hz (fold_ok _ trivial)] at hd3
    exact k F2 t ts2 H3 (hF1.h.trans (hF.h.trans e2)) hs3 hT hd3
end
end Sh


set_option Elab.async false
set_option linter.all false
set_option maxRecDepth 100000
set_option maxHeartbeats 4000000
namespace Sh
open PySem PySem.Spec PyProof.Rows L2
/-! the steps, by themselves as far as nothing is to be decided -/
set_option synthInstance.maxSize 4096
set_option synthInstance.maxHeartbeats 400000
local macro_rules | `(tactic| walk_at "sm") => `(tactic| first | assumption | exact Same.refl _ | exact Sm.h | (refine Same.trans ?_ Sm.h; walk_at "sm"))
local macro_rules | `(tactic| walk_at "py1") => `(tactic| first
  | refine go ?_
  | (with_reducible refine py_mulL (by omega) (by omega) ?_) | (with_reducible refine py_mulR (by omega) (by omega) ?_) | (with_reducible refine py_divI (by omega) (by omega) ?_) | (with_reducible refine py_modI (by omega) ?_)
  | (with_reducible refine nSet_mk ?_; intro _ _) | (with_reducible refine nTupF (by simp) ?_; intro _ _ _ _ _ _ _ _) | (with_reducible refine nLstO (by simp) ?_; intro _ _ _ _)
  | (with_reducible refine nRng1_mk (by omega) (by omega) ?_) | (with_reducible refine nRng2_mk (by omega) (by omega) (by omega) (by omega) ?_))
local macro_rules | `(tactic| walk_at "py") => `(tactic| repeat (walk_at "py1"))
def N_law_cut : List Str := ["_law_numbers", "_law_found", "_law_number"]
theorem st_law_cut {v0 : V} : start N_law_cut [v0] = [some v0, none, none] := rfl
def t_law_cut (K : PySem.W.Frag) : TS := (tSeq (tAsg (tLst tNil) (gName 1)) (tSeq (tFor (iList K (tVar 0)) (gName 2) (tIfS (tAnd (tTru K (tVar 1)) (tTest (tOp rEq (tOp (rIx K) (tOp (rIx K) (tVar 1) (tUn rNegI (tC (.int 1)))) (tC (.int 2))) (tC (.int 1))))) (tAsg (tTup (tCons (tOp (rIx K) (tOp (rIx K) (tVar 1) (tUn rNegI (tC (.int 1)))) (tC (.int 0))) (tCons (tOp rSubI (tVar 2) (tOp (rIx K) (tOp (rIx K) (tVar 1) (tUn rNegI (tC (.int 1)))) (tC (.int 0)))) (tCons (tC (.int 2)) tNil)))) (gSub (tVar 1) (tUn rNegI (tC (.int 1))) rSetL)) (tIfS (tAnd (tTru K (tVar 1)) (tTest (tOp rEq (tVar 2) (tOp rAddI (tOp (rIx K) (tOp (rIx K) (tVar 1) (tUn rNegI (tC (.int 1)))) (tC (.int 0))) (tOp rMulI (tOp (rIx K) (tOp (rIx K) (tVar 1) (tUn rNegI (tC (.int 1)))) (tC (.int 1))) (tOp (rIx K) (tOp (rIx K) (tVar 1) (tUn rNegI (tC (.int 1)))) (tC (.int 2)))))))) (tAsg (tTup (tCons (tOp (rIx K) (tOp (rIx K) (tVar 1) (tUn rNegI (tC (.int 1)))) (tC (.int 0))) (tCons (tOp (rIx K) (tOp (rIx K) (tVar 1) (tUn rNegI (tC (.int 1)))) (tC (.int 1))) (tCons (tOp rAddI (tOp (rIx K) (tOp (rIx K) (tVar 1) (tUn rNegI (tC (.int 1)))) (tC (.int 2))) (tC (.int 1))) tNil)))) (gSub (tVar 1) (tUn rNegI (tC (.int 1))) rSetL)) (tDrop (tBM K "list" rAppend (tVar 1) (tCons (tTup (tCons (tVar 2) (tCons (tC (.int 0)) (tCons (tC (.int 1)) tNil)))) tNil)))))) (tRet (tCB (rTupleOf K) (tCons (tVar 1) tNil)))))
def N_law_rows : List Str := ["_law_pool_here", "_law_rows_here", "_law_at", "_law_step", "_law_k", "_law_gap", "_law_count", "_law_first"]
theorem st_law_rows {v0 : V} : start N_law_rows [v0] = [some v0, none, none, none, none, none, none, none] := rfl
def t_law_rows (K : PySem.W.Frag) (sp_law_take : Sp) : TS := (tSeq (tAsg (tLst tNil) (gName 1)) (tSeq (tAsg (tOp rSubI (tCall sp_law_take [] E0 (tCons (tVar 0) (tCons (tC (.int 10)) tNil))) (tC (.int 5))) (gName 2)) (tSeq (tAsg (tOp rAddI (tC (.int 1)) (tCall sp_law_take [] E0 (tCons (tVar 0) (tCons (tC (.int 5)) tNil)))) (gName 3)) (tSeq (tFor (iRng1 (tCons (tOp rAddI (tC (.int 1)) (tCall sp_law_take [] E0 (tCons (tVar 0) (tCons (tC (.int 7)) tNil)))) tNil)) (gName 4) (Evl.tCut (tAsg (tIf (tTest (tOp rEq (tCall sp_law_take [] E0 (tCons (tVar 0) (tCons (tC (.int 2)) tNil))) (tC (.int 0)))) (tVar 3) (tOp rAddI (tC (.int 1)) (tCall sp_law_take [] E0 (tCons (tVar 0) (tCons (tC (.int 8)) tNil))))) (gName 5)) (Evl.tCut (tIfS (tTest (tOp rEq (tCall sp_law_take [] E0 (tCons (tVar 0) (tCons (tC (.int 3)) tNil))) (tC (.int 0)))) (tAsg (tOp rMulI (tOp rAddI (tC (.int 1)) (tCall sp_law_take [] E0 (tCons (tVar 0) (tCons (tC (.int 5)) tNil)))) (tOp (rIx K) (tTup (tCons (tC (.int 1)) (tCons (tOp rPowI (tC (.int 10)) (tC (.int 9))) tNil))) (tCB rInt1 (tCons (tOp rEq (tCall sp_law_take [] E0 (tCons (tVar 0) (tCons (tC (.int 5)) tNil))) (tC (.int 0))) tNil)))) (gName 3)) tNext) (tSeq (tAsg (tOp rAddI (tC (.int 1)) (tCall sp_law_take [] E0 (tCons (tVar 0) (tCons (tC (.int 6)) tNil)))) (gName 6)) (tSeq (tAsg (tOp rAddI (tVar 2) (tVar 5)) (gName 7)) (tSeq (tDrop (tBM K "list" rAppend (tVar 1) (tCons (tTup (tCons (tVar 7) (tCons (tIf (tTest (tOp rGtI (tVar 6) (tC (.int 1)))) (tVar 3) (tC (.int 0))) (tCons (tVar 6) tNil)))) tNil))) (tAsg (tOp rAddI (tVar 7) (tOp rMulI (tVar 3) (tOp rSubI (tVar 6) (tC (.int 1))))) (gName 2)))))))) (tRet (tVar 1))))))
def N_law : List Str := ["_law_script", "_law_pool_here", "_law_rows_here", "_law_numbers", "_law_first", "_law_step", "_law_count", "_law_due", "_law_last", "_law_more", "_law_told", "_law_k"]
theorem st_law {v0 : V} : start N_law [v0] = [some v0, none, none, none, none, none, none, none, none, none, none, none] := rfl
def t_law (K : PySem.W.Frag) (sp_law_pool : Sp) (sp_law_rows : Sp) (sp_law_cut : Sp) (sp_law_take : Sp) (sp_cut : Sp) (sp_law_same : Sp) : TS := (tSeq (tAsg (tCall sp_law_pool [] E0 (tCons (tVar 0) tNil)) (gName 1)) (tSeq (tAsg (tCall sp_law_rows [] E0 (tCons (tVar 1) tNil)) (gName 2)) (tSeq (tAsg (tLst tNil) (gName 3)) (tSeq (tFor (iList K (tVar 2)) (gTup K 3 (gCons (gName 4) (gCons (gName 5) (gCons (gName 6) gNil)))) (tDrop (tBM K "list" rExtend (tVar 3) (tCons (tLc (iRng1 (tCons (tVar 6) tNil)) (gName 11) tYes (tOp rAddI (tVar 4) (tOp rMulI (tVar 5) (tVar 11))) [11]) tNil)))) (tSeq (tAsg (tCB (rListOf K) (tCons (tCall sp_law_cut [] E0 (tCons (tVar 3) tNil)) tNil)) (gName 7)) (tSeq (tAsg (tOp (rIx K) (tVar 2) (tUn rNegI (tC (.int 1)))) (gName 8)) (Evl.tCut (tIfS (tAnd (tTest (tOp rGtI (tOp (rIx K) (tVar 8) (tC (.int 2))) (tC (.int 4)))) (tTest (tOp rEq (tCall sp_law_take [] E0 (tCons (tVar 1) (tCons (tC (.int 2)) tNil))) (tC (.int 0))))) (tSeq (tAsg (tCall sp_law_take [] E0 (tCons (tVar 1) (tCons (tOp rPowI (tC (.int 10)) (tC (.int 9))) tNil))) (gName 9)) (tSeq (tAsg (tTup (tCons (tOp (rIx K) (tVar 8) (tC (.int 0))) (tCons (tOp (rIx K) (tVar 8) (tC (.int 1))) (tCons (tOp rAddI (tOp (rIx K) (tVar 8) (tC (.int 2))) (tVar 9)) tNil)))) (gSub (tVar 2) (tUn rNegI (tC (.int 1))) rSetL)) (tAsg (tTup (tCons (tOp (rIx K) (tOp (rIx K) (tVar 7) (tUn rNegI (tC (.int 1)))) (tC (.int 0))) (tCons (tOp (rIx K) (tOp (rIx K) (tVar 7) (tUn rNegI (tC (.int 1)))) (tC (.int 1))) (tCons (tOp rAddI (tOp (rIx K) (tOp (rIx K) (tVar 7) (tUn rNegI (tC (.int 1)))) (tC (.int 2))) (tVar 9)) tNil)))) (gSub (tVar 7) (tUn rNegI (tC (.int 1))) rSetL)))) tNext) (tSeq (tAsg (tCall sp_cut [] E0 (tCons (tCB (rListOf K) (tCons (tVar 2) tNil)) tNil)) (gName 10)) (tRet (tAndV (tCall sp_law_same [] E0 (tCons (tVar 10) (tCons (tCB (rTupleOf K) (tCons (tVar 7) tNil)) tNil))) (tAndV (tCall sp_law_same [] E0 (tCons (tCall sp_cut [] E0 (tCons (tCB (rTupleOf K) (tCons (tVar 2) tNil)) tNil)) (tCons (tVar 10) tNil))) (tCall sp_law_same [] E0 (tCons (tCall sp_cut [] E0 (tCons (tVar 10) tNil)) (tCons (tVar 10) tNil))))))))))))))
/-! ### the law's own defs -/
section
variable (K : PySem.W.Frag)
def sp_law_cut : Sp := fun vs H Q _ => ∃ (F : Hp) (M : Ow) (a : Addr) (ns : List Int), Hs F M H ∧ vs = [.ref a] ∧ SqL K F a (ns.map V.int) ∧ ns.length ≤ 100000 ∧
  ∀ F' t ts H', Same F F' → Hs F' M H' → FzT K F' t ts → DpAll K F' ts ((cutN ns).map trD) → Q (.ref t) H'
/-- a row: its numbers are few, small -/
def RowOk (t : Tr) : Prop := 1 ≤ t.2.2 ∧ t.2.2 ≤ 6 ∧ (t.2.2 = 1 → t.2.1 = 0)
def sp_law_rows : Sp := fun vs H Q _ => ∃ (F : Hp) (M : Ow) (p : Addr) (o : HO) (m : HO → Ow), Hs F M H ∧ vs = [.ref p] ∧ Cell M p m ∧ Im M p o ∧ Pool K F o ∧
  ∀ F' r o' ts (rows : List Tr) H', Same F F' → Pool K F' o' → Hs F' ((r, HO.lst ts) :: m o') H' → DpAll K F' ts (rows.map trD) → rows ≠ [] → rows.length ≤ 7 → (∀ t ∈ rows, RowOk t) → Q (.ref r) H'
def sp_law : Sp := fun vs H Q _ => ∃ (a : Addr) (ns : List Int), vs = [.ref a] ∧ SqL K H a (ns.map V.int) ∧ ns.length ≤ 63 ∧ ∀ H', Q (.bl true) H'
end
section
variable {K : PySem.W.Frag}
theorem pure_law_cut (vs : List V) (H : Hp) (Q : VK) (E : XK) (h : sp_law_cut K vs H Q E) : t_law_cut K { nx := fun _ H' => Q .non H', rt := Q } (start N_law_cut vs) H := by
  obtain ⟨F, M, a, ns, hs, rfl, hx, hl, k⟩ := h
  have : FzL K F a (ns.map V.int) := ⟨hx⟩
  unfold t_law_cut
  rw [st_law_cut]
  walk_at "py"
  rename_i q H1 hq hs1
  refine nLoopL (fun i σ' F' M' => ∃ (ts : List V) (w : Option V), M' = (q, HO.lst ts) :: M ∧ σ' = [some (.ref a), some (.ref q), w] ∧ DpAll K F' ts ((clist ((ns.take i).foldl cstep none)).map trD)) ⟨[], none, rfl, rfl, .nil⟩ ?_ ?_
  · rintro i x σ' F' M' H' hi hF hs' ⟨ts, w, rfl, rfl, hd⟩
    have hil := (List.getElem?_eq_some_iff.mp hi).1
    rw [List.length_map] at hil
    rw [List.getElem?_map] at hi
    obtain ⟨z, hz, rfl⟩ := Option.map_eq_some_iff.mp hi
    have e2 : (ns.take (i + 1)).foldl cstep none = cstep ((ns.take i).foldl cstep none) z := by rw [List.take_add_one, hz, List.foldl_append]; rfl
    have hok := fold_ok (ns.take i) (z := none) trivial
    have hct := cnt_fold (ns.take i) none trivial
    have hln : (clist ((ns.take i).foldl cstep none)).length ≤ 100000 := Nat.le_trans (len_fold (ns.take i) none) (by simp [clist]; omega)
    rw [List.length_take] at hct
    simp only [clist, cntT, List.map_nil, List.sum_nil, List.length_nil] at hct
    have hpos := pos_of (ns.take i) none trivial (by simp [clist])
    have hle := dpa_len hd
    rw [List.length_map] at hle
    generalize (ns.take i).foldl cstep none = Z at *
    match Z, hd, hok, hct, hln, hpos, hle with
    | none, hd, _, _, _, _, _ =>
      cases hd
      walk_at "py"
      rename_i b F2 H2 hb hF2 hs2 hT hz2
      refine nAppend (xs := []) (by simp) fun H3 hs3 => ?_
      refine .mk (hF.h.trans hF2.h) hs3 ⟨[.ref b], _, rfl, rfl, ?_⟩
      rw [e2]
      exact .cons (dp_trI (hT K).h) .nil
    | some (l, (f, s, c)), hd, hok, hct, hln, hpos, hle =>
      simp only [clist, List.map_append, List.map_cons, List.map_nil] at hd
      obtain ⟨ts0, v, rfl, hd0, hv⟩ := dpa_snoc hd
      obtain ⟨b, rfl, hb⟩ := dp_tr hv
      have : FzT K F' b [.int f, .int s, .int c] := ⟨hb⟩
      have hc1 : 1 ≤ c := hok.1
      have hc2 : c ≤ 100000 := by
        have := cnt_nn (l := l) fun t ht => hpos t (by simp [clist, ht])
        simp only [clist, List.map_append, List.map_cons, List.map_nil, List.sum_append, List.sum_cons, List.sum_nil] at hct
        simp only [cntT] at this
        omega
      walk_at "py"
      refine ifP (fun h => ?_) (fun h => ?_)
      · walk_at "py"
        rename_i b2 F2 H2 hb2 hF2 hs2 hT hz2
        refine nSetL fun H3 hs3 => ?_
        refine .mk (hF.h.trans hF2.h) hs3 ⟨_, _, rfl, rfl, ?_⟩
        rw [e2, cs1 h]
        simp only [clist, List.map_append, List.map_cons, List.map_nil]
        exact dpa_app (dpa_mono hF2.h hd0) (.cons (dp_trI (hT K).h) .nil)
      · walk_at "py"
        refine ifP (fun h2 => ?_) (fun h2 => ?_)
        · walk_at "py"
          rename_i b2 F2 H2 hb2 hF2 hs2 hT hz2
          refine nSetL fun H3 hs3 => ?_
          refine .mk (hF.h.trans hF2.h) hs3 ⟨_, _, rfl, rfl, ?_⟩
          rw [e2, cs2 h h2]
          simp only [clist, List.map_append, List.map_cons, List.map_nil]
          exact dpa_app (dpa_mono hF2.h hd0) (.cons (dp_trI (hT K).h) .nil)
        · walk_at "py"
          rename_i b2 F2 H2 hb2 hF2 hs2 hT hz2
          refine nAppend ?_ fun H3 hs3 => ?_
          · rw [hle]; omega
          refine .mk (hF.h.trans hF2.h) hs3 ⟨_, _, rfl, rfl, ?_⟩
          rw [e2, cs3 h h2]
          simp only [clist, List.map_append, List.map_cons, List.map_nil]
          exact dpa_app (dpa_mono hF2.h hd) (.cons (dp_trI (hT K).h) .nil)
  · rintro σ' F' M' H' hF hs' ⟨ts, w, rfl, rfl, hd⟩
    rw [List.take_of_length_le (by simp)] at hd
    walk_at "py"
    refine nTupleOfO fun t F2 H2 ht hF2 hs2 hT hz2 => ?_
    exact k F2 t ts H2 (hF.h.trans hF2.h) (hs2.drop 0) hT (dpa_mono hF2.h hd)
theorem pure_law_rows (vs : List V) (H : Hp) (Q : VK) (E : XK) (h : sp_law_rows K vs H Q E) : t_law_rows K (sp_law_take K) { nx := fun _ H' => Q .non H', rt := Q } (start N_law_rows vs) H := by
  obtain ⟨F, M, p, o, m, hs, rfl, cc, hi, hP, k⟩ := h
  have hi2 := cell_im cc
  have hc2 := cell_cell cc
  unfold t_law_rows
  rw [st_law_rows]
  walk_at "py"
  rename_i r H1 hr hs1
  refine take_go (by decide) (by decide) fun a o1 H2 a0 a1 hP1 hs2 => ?_
  walk_at "py"
  refine take_go (by decide) (by decide) fun b o2 H3 b0 b1 hP2 hs3 => ?_
  walk_at "py"
  refine take_go (by decide) (by decide) fun c o3 H4 c0 c1 hP3 hs4 => ?_
  walk_at "py"
  refine nLoopR (fun i σ' F' M' => ∃ (o' : HO) (ts : List V) (rows : List Tr) (at_ st : Int) (w4 w5 w6 w7 : Option V), M' = (r, HO.lst ts) :: m o' ∧ Pool K F' o' ∧ σ' = [some (.ref p), some (.ref r), some (.int at_), some (.int st), w4, w5, w6, w7] ∧
    DpAll K F' ts (rows.map trD) ∧ rows.length = i ∧ (∀ t ∈ rows, RowOk t) ∧ 1 ≤ st ∧ st ≤ 5000000000) ⟨o3, [], [], _, _, none, none, none, none, rfl, hP3, rfl, .nil, rfl, by simp, by omega, by omega⟩ ?_ ?_
  · rintro i σ' F' M' H' hin hF hs' ⟨o', ts, rows, at_, st, w4, w5, w6, w7, rfl, hP', rfl, hd, hln, hro, hst0, hst1⟩
    walk_at "py"
    refine cutI (I := fun σ2 F2 M2 => F2 = F' ∧ ∃ (o2 : HO) (gap : Int), M2 = (r, HO.lst ts) :: m o2 ∧ Pool K F' o2 ∧ σ2 = [some (.ref p), some (.ref r), some (.int at_), some (.int st), some (.int (0 + (i : Int))), some (.int gap), w6, w7]) ?_ ?_
    · walk_at "py"
      refine take_go (by decide) (by decide) fun d o5 H5 d0 d1 hP5 hs5 => ?_
      walk_at "py"
      refine ifP (fun h => ?_) (fun h => ?_)
      · walk_at "py"
        exact ⟨F', _, Same.refl _, hs5, rfl, o5, _, rfl, hP5, rfl⟩
      · walk_at "py"
        refine take_go (by decide) (by decide) fun d o6 H6 d0 d1 hP6 hs6 => ?_
        walk_at "py"
        exact ⟨F', _, Same.refl _, hs6, rfl, o6, _, rfl, hP6, rfl⟩
    rintro σ2 F2 M2 H2 - hs2 ⟨rfl, o2, gap, rfl, hP2, rfl⟩
    walk_at "py"
    refine cutI (I := fun σ3 F3 M3 => ∃ (o3 : HO) (st : Int), Same F2 F3 ∧ M3 = (r, HO.lst ts) :: m o3 ∧ Pool K F3 o3 ∧ σ3 = [some (.ref p), some (.ref r), some (.int at_), some (.int st), some (.int (0 + (i : Int))), some (.int gap), w6, w7] ∧ 1 ≤ st ∧ st ≤ 5000000000) ?_ ?_
    · walk_at "py"
      refine take_go (by decide) (by decide) fun d o5 H5 d0 d1 hP5 hs5 => ?_
      walk_at "py"
      refine ifP (fun h => ?_) (fun h => ?_)
      · walk_at "py"
        refine take_go (by decide) (by decide) fun d o6 H6 d0 d1 hP6 hs6 => ?_
        walk_at "py"
        rename_i t F7 H7 ht hF7 hs7 hT hz
        refine take_go (by decide) (by decide) fun e o8 H8 e0 e1 hP8 hs8 => ?_
        walk_at "py"
        by_cases he : e = 0
        · rw [decide_eq_true he]
          walk_at "py"
          exact ⟨F7, _, hF7.h, hs8, o8, _, hF7.h, rfl, hP8, rfl, by omega, by omega⟩
        · rw [decide_eq_false he]
          walk_at "py"
          exact ⟨F7, _, hF7.h, hs8, o8, _, hF7.h, rfl, hP8, rfl, by omega, by omega⟩
      · walk_at "py"
        exact ⟨F2, _, Same.refl _, hs5, o5, _, Same.refl _, rfl, hP5, rfl, hst0, hst1⟩
    rintro σ3 F3 M3 H3 hF3 hs3 ⟨o3, st3, e3, rfl, hP3, rfl, st0, st1⟩
    walk_at "py"
    refine take_go (by decide) (by decide) fun d o5 H5 d0 d1 hP5 hs5 => ?_
    walk_at "py"
    have hd3 := dpa_mono e3 hd
    have hle := dpa_len hd3
    rw [List.length_map] at hle
    have fin : ∀ (st' : Int) (F9 : Hp) (H9 : Hp) (b : Addr), RowOk (at_ + gap, st', 1 + d) → Same F3 F9 → Hs F9 ((r, HO.lst (ts ++ [.ref b])) :: m o5) H9 → SqT K F9 b [.int (at_ + gap), .int st', .int (1 + d)] →
        IvH F (fun σ' F' M' => ∃ (o' : HO) (ts : List V) (rows : List Tr) (at_ st : Int) (w4 w5 w6 w7 : Option V), M' = (r, HO.lst ts) :: m o' ∧ Pool K F' o' ∧ σ' = [some (.ref p), some (.ref r), some (.int at_), some (.int st), w4, w5, w6, w7] ∧
          DpAll K F' ts (rows.map trD) ∧ rows.length = i + 1 ∧ (∀ t ∈ rows, RowOk t) ∧ 1 ≤ st ∧ st ≤ 5000000000)
          [some (.ref p), some (.ref r), some (.int (at_ + gap + st3 * (1 + d - 1))), some (.int st3), some (.int (0 + (i : Int))), some (.int gap), some (.int (1 + d)), some (.int (at_ + gap))] H9 := by
      intro st' F9 H9 b hok e9 hs9 hb
      refine .mk (hF.h.trans (e3.trans e9)) hs9 ⟨o5, _, rows ++ [(at_ + gap, st', 1 + d)], _, _, _, _, _, _, rfl, hP5.mono e9, rfl, ?_, by simp [hln], ?_, st0, st1⟩
      · rw [List.map_append]
        exact dpa_app (dpa_mono e9 hd3) (.cons (dp_trI hb) .nil)
      · intro t ht
        rcases List.mem_append.mp ht with ht | ht
        · exact hro t ht
        · rw [List.mem_singleton.mp ht]; exact hok
    refine ifP (fun h => ?_) (fun h => ?_)
    · walk_at "py"
      rename_i b F9 H9 hb hF9 hs9 hT hz
      refine nAppend (by omega) fun H10 hs10 => ?_
      walk_at "py"
      exact fin _ F9 H10 b ⟨by show 1 ≤ 1 + d; omega, by show 1 + d ≤ 6; omega, fun z => by have : 1 + d = 1 := z; omega⟩ hF9.h hs10 (hT K).h
    · walk_at "py"
      rename_i b F9 H9 hb hF9 hs9 hT hz
      refine nAppend (by omega) fun H10 hs10 => ?_
      walk_at "py"
      exact fin _ F9 H10 b ⟨by show 1 ≤ 1 + d; omega, by show 1 + d ≤ 6; omega, fun z => rfl⟩ hF9.h hs10 (hT K).h
  · rintro σ' F' M' H' hF hs' ⟨o', ts, rows, at_, st, w4, w5, w6, w7, rfl, hP', rfl, hd, hln, hro, hst0, hst1⟩
    walk_at "py"
    exact k F' r o' ts rows H' hF.h hP' hs' hd (fun z => by rw [z] at hln; simp at hln; omega) (by omega) hro
theorem rows_num : ∀ {rows : List Tr}, (∀ t ∈ rows, RowOk t) → (rows.map numsT).flatten.length ≤ 6 * rows.length
  | [], _ => by simp
  | r :: rows, h => by
    have ih := rows_num (rows := rows) fun t ht => h t (List.mem_cons_of_mem _ ht)
    have := h r List.mem_cons_self
    have h2 := this.2.1
    simp only [List.map_cons, List.flatten_cons, List.length_append, numsT, nums_len, List.length_cons] at *
    omega
theorem dOk_rows {rows : List Tr} (h : rows.length ≤ 1000000) : dOk 3 (.tuple (rows.map trD)) := by
  refine ⟨by simpa using h, fun d hd => ?_⟩
  obtain ⟨t, _, rfl⟩ := List.mem_map.mp hd
  refine ⟨by simp, fun d hd => ?_⟩
  simp only [List.mem_cons, List.not_mem_nil, or_false] at hd
  rcases hd with rfl | rfl | rfl <;> trivial
theorem pure_law (vs : List V) (H : Hp) (Q : VK) (E : XK) (h : sp_law K vs H Q E) : t_law K (sp_law_pool K) (sp_law_rows K) (sp_law_cut K) (sp_law_take K) (sp_cut K) (sp_law_same K 3) { nx := fun _ H' => Q .non H', rt := Q } (start N_law vs) H := by
  obtain ⟨a, ns, rfl, hx, hl, k⟩ := h
  unfold t_law
  rw [st_law]
  have hs : Hs H [] H := .start
  walk_at "py"
  refine ⟨H, [], a, ns, hs, rfl, hx, hl, fun p o F1 H1 e1 hP1 hs1 => ?_⟩
  walk_at "py"
  refine ⟨F1, _, p, o, _, hs1, rfl, inferInstance, inferInstance, hP1, fun F2 r o2 ts rows H2 e2 hP2 hs2 hd2 hne hlen hro => ?_⟩
  walk_at "py"
  rename_i n H3 hn hs3
  have hle := dpa_len hd2
  rw [List.length_map] at hle
  have hnum := rows_num hro
  -- the numbers
  refine nLoopO (fun i σ' F' M' => ∃ (w4 w5 w6 : Option V), M' = [(n, HO.lst ((((rows.take i).map numsT).flatten).map V.int)), (r, HO.lst ts), (p, o2)] ∧ σ' = [some (.ref a), some (.ref p), some (.ref r), some (.ref n), w4, w5, w6, none, none, none, none, none]) ⟨none, none, none, by simp, rfl⟩ (fun i σ' F' M' ⟨_, _, _, e, _⟩ => by rw [e]; infer_instance) ?_ ?_
  · rintro i x σ' F' M' H' hi hF hs' ⟨w4, w5, w6, rfl, rfl⟩
    have hil := (List.getElem?_eq_some_iff.mp hi).1
    obtain ⟨d, z1, z2⟩ := dpa_at hd2 hi
    rw [List.getElem?_map] at z1
    obtain ⟨⟨u, v, w⟩, ht, rfl⟩ := Option.map_eq_some_iff.mp z1
    obtain ⟨b, rfl, hb⟩ := dp_tr z2
    have : FzT K F' b [.int u, .int v, .int w] := ⟨same_t hF.h hb⟩
    obtain ⟨g1, g2, g3⟩ := hro _ (List.mem_of_getElem? ht)
    have g1 : 1 ≤ w := g1
    have g2 : w ≤ 6 := g2
    walk_at "py"
    refine nCompR (fun j acc F3 M3 => F3 = F' ∧ M3 = [(n, HO.lst ((((rows.take i).map numsT).flatten).map V.int)), (r, HO.lst ts), (p, o2)] ∧ acc = (nums u v j).map V.int) ⟨rfl, rfl, rfl⟩ ?_ ?_
    · rintro j acc D F3 M3 H4 hj hF3 hs4 ⟨rfl, rfl, rfl⟩
      walk_at "py"
      refine .mk (Same.refl _) hs4 (by rw [List.length_map, nums_len]; omega) ⟨rfl, rfl, ?_⟩
      rw [nums_snoc, List.map_append]; simp
    · rintro D acc F3 M3 H4 hD hF3 hs4 ⟨rfl, rfl, rfl⟩
      walk_at "py"
      refine nExtend ?_ fun H5 hs5 => ?_
      · rw [List.length_map, List.length_map, nums_len]
        have := flat_take (rows := rows) i
        omega
      walk_at "py"
      refine .mk hF.h (hs5.drop 0) ⟨_, _, _, ?_, rfl⟩
      simp only [List.eraseIdx_cons_zero]
      rw [List.take_add_one, ht, List.map_append, List.flatten_append, List.map_append]
      simp [numsT]
  · rintro σ' F' M' H' hF hs' ⟨w4, w5, w6, rfl, rfl⟩
    rw [hle, List.take_of_length_le (Nat.le_refl _)] at hs'
    have hs4 := hs'.freeze (j := 0) rfl
    have hn4 : FzL K (upd F' n (.lst (((rows.map numsT).flatten).map V.int))) n (((rows.map numsT).flatten).map V.int) := .of upd_same
    have hF4 : Sm F' (upd F' n (.lst (((rows.map numsT).flatten).map V.int))) := ⟨hs'.same_freeze (j := 0) rfl⟩
    generalize upd F' n (.lst (((rows.map numsT).flatten).map V.int)) = F4 at *
    simp only [List.eraseIdx_cons_zero] at hs4
    have hd4 := dpa_mono (hF.h.trans hF4.h) hd2
    walk_at "py"
    refine ⟨F4, _, n, _, hs4, rfl, hn4.h, by omega, fun F5 t ts5 H5 e5 hs5 hT5 hd5 => ?_⟩
    walk_at "py"
    refine nListOfT fun dd H6 hdd hs6 => ?_
    have hF5 : Sm F4 F5 := ⟨e5⟩
    -- the last row
    obtain ⟨ini, ⟨u, v, w⟩, rfl⟩ : ∃ ini t, rows = ini ++ [t] := ⟨rows.dropLast, rows.getLast hne, (List.dropLast_concat_getLast hne).symm⟩
    have hd6 := dpa_mono e5 hd4
    rw [List.map_append] at hd6
    obtain ⟨ts0, lv, rfl, hd60, hlv⟩ := dpa_snoc hd6
    obtain ⟨b, rfl, hb⟩ := dp_tr hlv
    have : FzT K F5 b [.int u, .int v, .int w] := ⟨hb⟩
    walk_at "py"
    refine cutI (I := fun σ7 F7 M7 => ∃ (o7 : HO) (tsR tsD : List V) (rw7 : List Tr) (w9 : Option V), M7 = [(dd, HO.lst tsD), (r, HO.lst tsR), (p, o7)] ∧ σ7 = [some (.ref a), some (.ref p), some (.ref r), some (.ref n), w4, w5, w6, some (.ref dd), some (.ref b), w9, none, none] ∧
      DpAll K F7 tsR (rw7.map trD) ∧ DpAll K F7 tsD ((cutR rw7).map trD) ∧ rw7.length ≤ 7 ∧ (∀ t ∈ rw7, 1 ≤ t.2.2) ∧ cntT rw7 ≤ 10000000000 ∧ (cutR rw7).length ≤ 1000) ?_ ?_
    · have cnt0 : cntT (ini ++ [(u, v, w)]) ≤ 42 := by
        rw [← flat_len fun t ht => (hro t ht).1]
        have : (((ini ++ [(u, v, w)]).map numsT).flatten.length : Int) ≤ ((6 * (ini ++ [(u, v, w)]).length : Nat) : Int) := Int.ofNat_le.mpr hnum
        omega
      have same0 : ∀ (o7 : HO) (H7 : Hp) (w9 : Option V), Hs F5 [(dd, HO.lst ts5), (r, HO.lst (ts0 ++ [.ref b])), (p, o7)] H7 → ∃ F' M', Same F5 F' ∧ Hs F' M' H7 ∧ ∃ (o7 : HO) (tsR tsD : List V) (rw7 : List Tr) (w9' : Option V), M' = [(dd, HO.lst tsD), (r, HO.lst tsR), (p, o7)] ∧ [some (.ref a), some (.ref p), some (.ref r), some (.ref n), w4, w5, w6, some (.ref dd), some (.ref b), w9, none, none] = [some (.ref a), some (.ref p), some (.ref r), some (.ref n), w4, w5, w6, some (.ref dd), some (.ref b), w9', none, none] ∧
          DpAll K F' tsR (rw7.map trD) ∧ DpAll K F' tsD ((cutR rw7).map trD) ∧ rw7.length ≤ 7 ∧ (∀ t ∈ rw7, 1 ≤ t.2.2) ∧ cntT rw7 ≤ 10000000000 ∧ (cutR rw7).length ≤ 1000 := fun o7 H7 w9 hs7 =>
        ⟨F5, _, Same.refl _, hs7, o7, _, _, ini ++ [(u, v, w)], w9, rfl, rfl, by rw [List.map_append]; exact hd6, hd5, hlen, fun t ht => (hro t ht).1, by omega, by have := cut_len (ini ++ [(u, v, w)]); omega⟩
      walk_at "py"
      refine ifP (fun h4 => ?_) (fun h4 => ?_)
      · walk_at "py"
        refine take_go (by decide) (by decide) fun d o7 H7 d0 d1 hP7 hs7 => ?_
        walk_at "py"
        refine ifP (fun h5 => ?_) (fun h5 => ?_)
        · walk_at "py"
          refine take_go (by decide) (by decide) fun more o8 H8 m0 m1 hP8 hs8 => ?_
          walk_at "py"
          rename_i b9 F9 H9 hb9 hF9 hs9 hT9 hz9
          refine nSetL fun H10 hs10 => ?_
          obtain ⟨L, f', s', c', q1, q2⟩ := cut_more (ini := ini) (f := u) (s := v) (c := w) h4 m0
          have hd5' := hd5
          rw [show cutN ((ini ++ [(u, v, w)]).map numsT).flatten = L ++ [(f', s', c')] from q1, List.map_append] at hd5'
          obtain ⟨ts1, lv1, rfl, hd70, hlv1⟩ := dpa_snoc hd5'
          obtain ⟨b1, rfl, hb1⟩ := dp_tr hlv1
          have : FzT K F5 b1 [.int f', .int s', .int c'] := ⟨hb1⟩
          walk_at "py"
          rename_i b11 F11 H11 hb11 hF11 hs11 hT11 hz11
          refine nSetL fun H12 hs12 => ?_
          walk_at "py"
          refine ⟨F11, _, hF9.h.trans hF11.h, hs12, o8, _, _, ini ++ [(u, v, w + more)], _, rfl, rfl, ?_, ?_, by simpa using hlen, ?_, ?_, ?_⟩
          · rw [List.map_append]
            exact dpa_app (dpa_mono (hF9.h.trans hF11.h) hd60) (.cons (dp_mono hF11.h (dp_trI (hT9 K).h)) .nil)
          · rw [q2, List.map_append]
            exact dpa_app (dpa_mono (hF9.h.trans hF11.h) hd70) (.cons (dp_trI (hT11 K).h) .nil)
          · intro t ht
            rcases List.mem_append.mp ht with ht | ht
            · exact (hro t (List.mem_append_left _ ht)).1
            · rw [List.mem_singleton.mp ht]; show 1 ≤ w + more; omega
          · simp only [cntT, List.map_append, List.map_cons, List.map_nil, List.sum_append, List.sum_cons, List.sum_nil] at cnt0 ⊢
            omega
          · rw [q2]
            have := cut_len (ini ++ [(u, v, w)])
            rw [q1] at this
            simp only [List.length_append, List.length_cons, List.length_nil] at this ⊢
            simp only [List.length_append, List.length_cons, List.length_nil] at hnum hlen
            omega
        · walk_at "py"
          exact same0 o7 H7 none hs7
      · walk_at "py"
        exact same0 o2 H6 none hs6
    rintro σ7 F7 M7 H7 hF7 hs7 ⟨o7, tsR, tsD, rw7, w9, rfl, rfl, hdR, hdD, hlen7, hp7, hc7, hl7⟩
    walk_at "py"
    refine nListOfO fun l8 H8 hl8 hs8 => ?_
    have hs9 := hs8.freeze (j := 0) rfl
    have hn9 : FzL K (upd F7 l8 (.lst tsR)) l8 tsR := .of upd_same
    have hF9 : Sm F7 (upd F7 l8 (.lst tsR)) := ⟨hs8.same_freeze (j := 0) rfl⟩
    generalize upd F7 l8 (.lst tsR) = F9 at *
    simp only [List.eraseIdx_cons_zero] at hs9
    walk_at "py"
    refine ⟨F9, _, l8, tsR, rw7, hs9, rfl, .inl hn9.h, dpa_mono hF9.h hdR, by omega, hp7, by omega, fun F10 t10 ts10 H10 e10 hs10 hT10 hd10 => ?_⟩
    have hF10 : Sm F9 F10 := ⟨e10⟩
    walk_at "py"
    refine nTupleOfO fun t11 F11 H11 ht11 hF11 hs11 hT11 hz11 => ?_
    have e79 : Same F7 F11 := hF9.h.trans (e10.trans hF11.h)
    walk_at "py"
    refine ⟨F11, _, _, _, .tuple ((cutR rw7).map trD), hs11, rfl, .tup (same_t hF11.h hT10.h) (dpa_mono hF11.h hd10), .tup hT11.h (dpa_mono e79 hdD), dOk_rows (by omega), fun F12 H12 e12 hs12 => ?_⟩
    have hF12 : Sm F11 F12 := ⟨e12⟩
    walk_at "py"
    refine nTupleOfO fun t13 F13 H13 ht13 hF13 hs13 hT13 hz13 => ?_
    have e713 : Same F7 F13 := e79.trans (e12.trans hF13.h)
    have e1013 : Same F10 F13 := hF11.h.trans (e12.trans hF13.h)
    walk_at "py"
    refine ⟨F13, _, t13, tsR, rw7, hs13, rfl, .inr hT13.h, dpa_mono e713 hdR, by omega, hp7, by omega, fun F14 t14 ts14 H14 e14 hs14 hT14 hd14 => ?_⟩
    have e1014 : Same F10 F14 := e1013.trans e14
    walk_at "py"
    refine ⟨F14, _, _, _, .tuple ((cutR rw7).map trD), hs14, rfl, .tup hT14.h hd14, .tup (same_t e1014 hT10.h) (dpa_mono e1014 hd10), dOk_rows (by omega), fun F15 H15 e15 hs15 => ?_⟩
    have e1015 : Same F10 F15 := e1014.trans e15
    walk_at "py"
    have cp := cut_pos (rw7.map numsT).flatten
    refine ⟨F15, _, t10, ts10, cutR rw7, hs15, rfl, .inr (same_t e1015 hT10.h), dpa_mono e1015 hd10, by omega, cp, ?_, fun F16 t16 ts16 H16 e16 hs16 hT16 hd16 => ?_⟩
    · have := cut_cnt (rw7.map numsT).flatten
      have := flat_len hp7
      show cntT (cutN (rw7.map numsT).flatten) ≤ _
      omega
    rw [show cutR (cutR rw7) = cutR rw7 from cut_again _] at hd16
    have e1016 : Same F10 F16 := e1015.trans e16
    walk_at "py"
    refine ⟨F16, _, _, _, .tuple ((cutR rw7).map trD), hs16, rfl, .tup hT16.h hd16, .tup (same_t e1016 hT10.h) (dpa_mono e1016 hd10), dOk_rows (by omega), fun F17 H17 e17 hs17 => ?_⟩
    exact k H17
end
end Sh


set_option Elab.async false
set_option linter.all false
set_option maxRecDepth 100000
set_option maxHeartbeats 4000000
namespace Sh
open PySem PySem.Spec PyProof.Rows L2
/-! ### the row: places, scopes -/
def topS (i : Nat) : Stmt := PySem.Challenge.pw_shortheld_k18_progressions.main.body.getD i (.Pass ⟨0, 0, 0, 0⟩)
abbrev s_law_pool : Stmt := topS 4
theorem sc_law_pool : FnScope N_law_pool ["_law_script"] (defScope s_law_pool) := ⟨rfl, rfl, rfl, by decide +kernel, rfl, by decide +kernel, by decide +kernel⟩
abbrev s_law_take : Stmt := topS 5
theorem sc_law_take : FnScope N_law_take ["_law_pool_here", "_law_many"] (defScope s_law_take) := ⟨rfl, rfl, rfl, by decide +kernel, rfl, by decide +kernel, by decide +kernel⟩
abbrev s_law_is_integer : Stmt := topS 6
theorem sc_law_is_integer : FnScope N_law_is_integer ["_law_actual"] (defScope s_law_is_integer) := ⟨rfl, rfl, rfl, by decide +kernel, rfl, by decide +kernel, by decide +kernel⟩
abbrev s_law_same : Stmt := topS 7
theorem sc_law_same : FnScope N_law_same ["_law_actual", "_law_due"] (defScope s_law_same) := ⟨rfl, rfl, rfl, by decide +kernel, rfl, by decide +kernel, by decide +kernel⟩
abbrev s_Cutter_init : Stmt := inClass (topS 1) 0
theorem sc_Cutter_init : FnScope N_Cutter_init ["self"] (defScope s_Cutter_init) := ⟨rfl, rfl, rfl, by decide +kernel, rfl, by decide +kernel, by decide +kernel⟩
abbrev s_Cutter_end : Stmt := inClass (topS 1) 1
theorem sc_Cutter_end : FnScope N_Cutter_end ["self"] (defScope s_Cutter_end) := ⟨rfl, rfl, rfl, by decide +kernel, rfl, by decide +kernel, by decide +kernel⟩
abbrev s_Cutter_begin : Stmt := inClass (topS 1) 2
theorem sc_Cutter_begin : FnScope N_Cutter_begin ["self", "number"] (defScope s_Cutter_begin) := ⟨rfl, rfl, rfl, by decide +kernel, rfl, by decide +kernel, by decide +kernel⟩
abbrev s_Cutter_add : Stmt := inClass (topS 1) 3
theorem sc_Cutter_add : FnScope N_Cutter_add ["self", "first", "step", "count"] (defScope s_Cutter_add) := ⟨rfl, rfl, rfl, by decide +kernel, rfl, by decide +kernel, by decide +kernel⟩
abbrev s_Cutter_progressions : Stmt := inClass (topS 1) 4
theorem sc_Cutter_progressions : FnScope N_Cutter_progressions ["self"] (defScope s_Cutter_progressions) := ⟨rfl, rfl, rfl, by decide +kernel, rfl, by decide +kernel, by decide +kernel⟩
abbrev s_cut : Stmt := topS 2
theorem sc_cut : FnScope N_cut ["rows"] (defScope s_cut) := ⟨rfl, rfl, rfl, by decide +kernel, rfl, by decide +kernel, by decide +kernel⟩
abbrev s_law_cut : Stmt := topS 8
theorem sc_law_cut : FnScope N_law_cut ["_law_numbers"] (defScope s_law_cut) := ⟨rfl, rfl, rfl, by decide +kernel, rfl, by decide +kernel, by decide +kernel⟩
abbrev s_law_rows : Stmt := topS 9
theorem sc_law_rows : FnScope N_law_rows ["_law_pool_here"] (defScope s_law_rows) := ⟨rfl, rfl, rfl, by decide +kernel, rfl, by decide +kernel, by decide +kernel⟩
abbrev s_law : Stmt := topS 10
theorem sc_law : FnScope N_law ["_law_script"] (defScope s_law) := ⟨rfl, rfl, rfl, by decide +kernel, rfl, by decide +kernel, by decide +kernel⟩
/-- what the top has written -/
structure Tp (K : PySem.W.Frag) (mg : Str → Option Value) : Prop where
  f_all : mg "all" = none
  f_bool : mg "bool" = none
  f_int : mg "int" = none
  f_isinstance : mg "isinstance" = none
  f_len : mg "len" = none
  f_list : mg "list" = none
  f_range : mg "range" = none
  f_str : mg "str" = none
  f_tuple : mg "tuple" = none
  c_Cutter : ClsF K (He.ga K "Cutter") ns_Cutter
section
variable {P : Program} {w : World} {K : PySem.W.Frag} {mg : Str → Option Value} {base : Heap}
theorem ok_law_pool {f : Addr} {fd : FuncData} (T : Tp K mg) (F : FunD K "_law_pool" "_law_pool" (defArgs s_law_pool) (defBody s_law_pool) (defScope s_law_pool) [] [] f fd) : FnOk P w K mg base CX0 1 f fd ["_law_script"] (sp_law_pool K) := by
  have := T.c_Cutter
  refine FunD.ok F sc_law_pool (fun vs H Q E h => ?_) (fun cdv A outer s H vs Q E hr h => ⟨t_law_pool K, PSs.nox ?_, pure_law_pool vs H Q E h⟩)
  · (repeat obtain ⟨_, h⟩ := h)
    subst_vars
    rfl
  · exact (pss_one (ps_ret (pe_lst (pa_cons (pe_lc (own := [("_law_cell", 1)]) (g := (gName 1)) (tt := tYes) (by rfl) sc_law_pool.nd (pi_list (pv 0)) (blkOk_by (own := [("_law_cell", 1)]) (N := N_law_pool) (sc := defScope s_law_pool) (by decide +kernel)) (fun _ _ _ _ _ => (pg_name (i := 1) sc_law_pool.nd rfl (Or.inl rfl))) (fun _ _ _ _ _ => pts_nil) (fun _ _ _ _ _ => (pe_ifExp (pt_cmpR op_ge (pv 1) pe_int (nomark _)) (pe_op op_mul pe_int (pv 1)) (pe_op op_sub (pe_op op_mul (pe_un un_neg pe_int) (pv 1)) pe_int)))) (pa_cons pe_int (pa_cons pe_int (pa_cons pe_int pa_nil)))))))
theorem ok_law_take {k : Nat} {sp sp_self : Sp} {f : Addr} {fd : FuncData} (T : Tp K mg) (F : FunD K "_law_take" "_law_take" (defArgs s_law_take) (defBody s_law_take) (defScope s_law_take) [] [] f fd) (G_law_take : Fn P w K mg base CX0 "_law_take" k ["_law_pool_here", "_law_many"] [] (sp_self)) (len : ∀ vs H Q E, sp vs H Q E → vs.length = 2)
    (pure : ∀ vs H Q E, sp vs H Q E → t_law_take K (sp_self) { nx := fun _ H' => Q .non H', rt := Q } (start N_law_take vs) H) : FnOk P w K mg base CX0 (k + 1) f fd ["_law_pool_here", "_law_many"] sp := by
  refine FunD.ok F sc_law_take len (fun cdv A outer s H vs Q E hr h => ⟨t_law_take K (sp_self), PSs.nox ?_, pure vs H Q E h⟩)
  exact (pss_cons (ps_if (pt_cmpR op_gt (pe_ix ix_seq (pv 0) pe_int (fun _ _ => rfl)) pe_int (nomark _)) (pss_cons (ps_set (i := 2) sc_law_take.nd rfl (Or.inl rfl) (pe_op op_mod (pe_callTy call_int1 (by rfl) T.f_int (by decide +kernel) (pa_cons (pe_ix ix_seq (pv 0) pe_int (fun _ _ => rfl)) pa_nil)) (pv 1))) (pss_cons (ps_asg (pe_op op_fdivW (pe_ix ix_seq (pv 0) pe_int (fun _ _ => rfl)) (pv 1)) (pg_sub (pv 0) pe_int set_list)) (pss_one (ps_ret (pv 2))))) pss_nil) (pss_cons (ps_set (i := 3) sc_law_take.nd rfl (Or.inl rfl) pe_int) (Evl.pss_cut (ps_if (pt_cmpR op_lt (pe_ix ix_seq (pv 0) pe_int (fun _ _ => rfl)) (pe_callB call_len (by rfl) T.f_len (by decide +kernel) (pa_cons (pe_ix ix_seq (pv 0) pe_int (fun _ _ => rfl)) pa_nil)) (nomark _)) (pss_one (ps_set (i := 3) sc_law_take.nd rfl (Or.inl rfl) (pe_ix ix_seq (pe_ix ix_seq (pv 0) pe_int (fun _ _ => rfl)) (pe_ix ix_seq (pv 0) pe_int (fun _ _ => rfl)) (fun _ _ => rfl)))) pss_nil) (pss_cons (ps_asg (pe_op op_add (pe_ix ix_seq (pv 0) pe_int (fun _ _ => rfl)) pe_int) (pg_sub (pv 0) pe_int set_list)) (pss_cons (ps_if (pt_cmpR op_ge (pv 3) (pe_op op_pow pe_int pe_int) (nomark _)) (pss_cons (ps_asg (pe_op op_fdivW (pv 3) pe_int) (pg_sub (pv 0) pe_int set_list)) (pss_one (ps_ret (pe_fn G_law_take (hr.mono (by omega)) pass0 (pa_cons (pv 0) (pa_cons (pv 1) pa_nil)))))) pss_nil) (pss_cons (ps_asg (pe_op op_mod (pe_callTy call_int1 (by rfl) T.f_int (by decide +kernel) (pa_cons (pe_op op_add (pe_op op_add (pe_op op_mul (pe_ix ix_seq (pv 0) pe_int (fun _ _ => rfl)) pe_int) (pe_op op_mul (pv 3) pe_int)) (pe_op op_mul (pe_ix ix_seq (pv 0) pe_int (fun _ _ => rfl)) pe_int)) pa_nil)) pe_int) (pg_sub (pv 0) pe_int set_list)) (pss_cons (ps_set (i := 4) sc_law_take.nd rfl (Or.inl rfl) (pe_op op_mod (pe_callTy call_int1 (by rfl) T.f_int (by decide +kernel) (pa_cons (pe_op op_add (pe_op op_add (pe_op op_mul (pe_ix ix_seq (pv 0) pe_int (fun _ _ => rfl)) (pe_ix ix_seq (pv 0) pe_int (fun _ _ => rfl))) (pe_op op_mul (pe_ix ix_seq (pv 0) pe_int (fun _ _ => rfl)) pe_int)) pe_int) pa_nil)) pe_int)) (pss_one (ps_ret (pe_op op_mod (pe_callTy call_int1 (by rfl) T.f_int (by decide +kernel) (pa_cons (pe_op op_fdivW (pv 4) pe_int) pa_nil)) (pv 1)))))))))))
theorem ok_law_is_integer {f : Addr} {fd : FuncData} (T : Tp K mg) (F : FunD K "_law_is_integer" "_law_is_integer" (defArgs s_law_is_integer) (defBody s_law_is_integer) (defScope s_law_is_integer) [] [] f fd) : FnOk P w K mg base CX0 1 f fd ["_law_actual"] (sp_law_is_integer) := by
  have := T.c_Cutter
  refine FunD.ok F sc_law_is_integer (fun vs H Q E h => ?_) (fun cdv A outer s H vs Q E hr h => ⟨t_law_is_integer K, PSs.nox ?_, pure_law_is_integer vs H Q E h⟩)
  · (repeat obtain ⟨_, h⟩ := h)
    subst_vars
    rfl
  · exact (pss_one (ps_ret (pe_and (pe_callB call_isi (by rfl) T.f_isinstance (by decide +kernel) (pa_cons (pv 0) (pa_cons (pe_bltn (by rfl) T.f_int (by decide +kernel) rfl) pa_nil))) (pe_one (pe_not (pe_callB call_isi (by rfl) T.f_isinstance (by decide +kernel) (pa_cons (pv 0) (pa_cons (pe_bltn (by rfl) T.f_bool (by decide +kernel) rfl) pa_nil))))))))
theorem ok_law_same {k : Nat} {sp sp_self : Sp} {f : Addr} {fd : FuncData} (T : Tp K mg) (F : FunD K "_law_same" "_law_same" (defArgs s_law_same) (defBody s_law_same) (defScope s_law_same) [] [] f fd) (G_law_same : Fn P w K mg base CX0 "_law_same" k ["_law_actual", "_law_due"] [] (sp_self)) (G_law_is_integer : Fn P w K mg base CX0 "_law_is_integer" 1 ["_law_actual"] [] (sp_law_is_integer)) (hk : 1 ≤ k) (len : ∀ vs H Q E, sp vs H Q E → vs.length = 2)
    (pure : ∀ vs H Q E, sp vs H Q E → t_law_same K (sp_self) (sp_law_is_integer) { nx := fun _ H' => Q .non H', rt := Q } (start N_law_same vs) H) : FnOk P w K mg base CX0 (k + 1) f fd ["_law_actual", "_law_due"] sp := by
  refine FunD.ok F sc_law_same len (fun cdv A outer s H vs Q E hr h => ⟨t_law_same K (sp_self) (sp_law_is_integer), PSs.nox ?_, pure vs H Q E h⟩)
  exact (pss_cons (ps_if (pt_val (pe_callB call_isi (by rfl) T.f_isinstance (by decide +kernel) (pa_cons (pv 1) (pa_cons (pe_bltn (by rfl) T.f_tuple (by decide +kernel) rfl) pa_nil)))) (pss_cons (ps_if (PW.pt (pw_or (pt_not (pt_val (pe_callB call_isi (by rfl) T.f_isinstance (by decide +kernel) (pa_cons (pv 0) (pa_cons (pe_bltn (by rfl) T.f_tuple (by decide +kernel) rfl) pa_nil))))) (pw_or1 (pt_cmpR op_ne (pe_callB call_len (by rfl) T.f_len (by decide +kernel) (pa_cons (pv 0) pa_nil)) (pe_callB call_len (by rfl) T.f_len (by decide +kernel) (pa_cons (pv 1) pa_nil)) (nomark _))))) (pss_one (ps_ret pe_bl)) pss_nil) (pss_one (ps_ret (pe_callB (cr_all rfl) (by rfl) T.f_all (by decide +kernel) (pa_cons (pe_lc (own := [("_law_k", 2)]) (g := (gName 2)) (tt := tYes) (by rfl) sc_law_same.nd (pi_range1 (by rfl) T.f_range (pa_cons (pe_callB call_len (by rfl) T.f_len (by decide +kernel) (pa_cons (pv 1) pa_nil)) pa_nil)) (blkOk_by (own := [("_law_k", 2)]) (N := N_law_same) (sc := defScope s_law_same) (by decide +kernel)) (fun _ _ _ _ _ => (pg_name (i := 2) sc_law_same.nd rfl (Or.inl rfl))) (fun _ _ _ _ _ => pts_nil) (fun _ _ _ _ _ => (pe_fn G_law_same (hr.mono (by omega)) pass0 (pa_cons (pe_ix ix_seq (pv 0) (pv 2) (fun _ _ => rfl)) (pa_cons (pe_ix ix_seq (pv 1) (pv 2) (fun _ _ => rfl)) pa_nil))))) pa_nil))))) pss_nil) (pss_cons (ps_if (pt_val (pe_callB call_isi (by rfl) T.f_isinstance (by decide +kernel) (pa_cons (pv 1) (pa_cons (pe_bltn (by rfl) T.f_list (by decide +kernel) rfl) pa_nil)))) (pss_cons (ps_if (PW.pt (pw_or (pt_not (pt_val (pe_callB call_isi (by rfl) T.f_isinstance (by decide +kernel) (pa_cons (pv 0) (pa_cons (pe_bltn (by rfl) T.f_list (by decide +kernel) rfl) pa_nil))))) (pw_or1 (pt_cmpR op_ne (pe_callB call_len (by rfl) T.f_len (by decide +kernel) (pa_cons (pv 0) pa_nil)) (pe_callB call_len (by rfl) T.f_len (by decide +kernel) (pa_cons (pv 1) pa_nil)) (nomark _))))) (pss_one (ps_ret pe_bl)) pss_nil) (pss_one (ps_ret (pe_callB (cr_all rfl) (by rfl) T.f_all (by decide +kernel) (pa_cons (pe_lc (own := [("_law_k", 2)]) (g := (gName 2)) (tt := tYes) (by rfl) sc_law_same.nd (pi_range1 (by rfl) T.f_range (pa_cons (pe_callB call_len (by rfl) T.f_len (by decide +kernel) (pa_cons (pv 1) pa_nil)) pa_nil)) (blkOk_by (own := [("_law_k", 2)]) (N := N_law_same) (sc := defScope s_law_same) (by decide +kernel)) (fun _ _ _ _ _ => (pg_name (i := 2) sc_law_same.nd rfl (Or.inl rfl))) (fun _ _ _ _ _ => pts_nil) (fun _ _ _ _ _ => (pe_fn G_law_same (hr.mono (by omega)) pass0 (pa_cons (pe_ix ix_seq (pv 0) (pv 2) (fun _ _ => rfl)) (pa_cons (pe_ix ix_seq (pv 1) (pv 2) (fun _ _ => rfl)) pa_nil))))) pa_nil))))) pss_nil) (pss_cons (ps_if (pt_cmpR op_isN (pv 1) pe_non (nomark _)) (pss_one (ps_ret (pe_cmpR op_isN (pv 0) pe_non (nomark _)))) pss_nil) (pss_cons (ps_if (pt_val (pe_callB call_isi (by rfl) T.f_isinstance (by decide +kernel) (pa_cons (pv 1) (pa_cons (pe_bltn (by rfl) T.f_bool (by decide +kernel) rfl) pa_nil)))) (pss_one (ps_ret (pe_and (pe_callB call_isi (by rfl) T.f_isinstance (by decide +kernel) (pa_cons (pv 0) (pa_cons (pe_bltn (by rfl) T.f_bool (by decide +kernel) rfl) pa_nil))) (pe_one (pe_cmpR op_eq (pv 0) (pv 1) (nomark _)))))) pss_nil) (pss_cons (ps_if (pt_val (pe_callB call_isi (by rfl) T.f_isinstance (by decide +kernel) (pa_cons (pv 1) (pa_cons (pe_bltn (by rfl) T.f_str (by decide +kernel) rfl) pa_nil)))) (pss_one (ps_ret (pe_and (pe_callB call_isi (by rfl) T.f_isinstance (by decide +kernel) (pa_cons (pv 0) (pa_cons (pe_bltn (by rfl) T.f_str (by decide +kernel) rfl) pa_nil))) (pe_one (pe_cmpR op_eq (pv 0) (pv 1) (nomark _)))))) pss_nil) (pss_one (ps_ret (pe_and (pe_fn G_law_is_integer (hr.mono (by omega)) pass0 (pa_cons (pv 0) pa_nil)) (pe_one (pe_cmpR op_eq (pv 0) (pv 1) (nomark _)))))))))))
theorem ok_Cutter_init {f : Addr} {fd : FuncData} (T : Tp K mg) (F : FunD K "__init__" "Cutter.__init__" (defArgs s_Cutter_init) (defBody s_Cutter_init) (defScope s_Cutter_init) [] [] f fd) : FnOk P w K mg base CX0 1 f fd ["self"] (sp_Cutter_init K) := by
  have := T.c_Cutter
  refine FunD.ok F sc_Cutter_init (fun vs H Q E h => ?_) (fun cdv A outer s H vs Q E hr h => ⟨t_Cutter_init K, PSs.nox ?_, pure_Cutter_init vs H Q E h⟩)
  · (repeat obtain ⟨_, h⟩ := h)
    subst_vars
    rfl
  · exact (pss_cons (ps_fld (pv 0) (pe_lst pa_nil) rfl) (pss_cons (ps_fld (pv 0) pe_int rfl) (pss_cons (ps_fld (pv 0) pe_int rfl) (pss_one (ps_fld (pv 0) pe_int rfl)))))
theorem ok_Cutter_end {f : Addr} {fd : FuncData} (T : Tp K mg) (F : FunD K "_end" "Cutter._end" (defArgs s_Cutter_end) (defBody s_Cutter_end) (defScope s_Cutter_end) [] [] f fd) : FnOk P w K mg base CX0 1 f fd ["self"] (sp_Cutter_end K) := by
  have := T.c_Cutter
  refine FunD.ok F sc_Cutter_end (fun vs H Q E h => ?_) (fun cdv A outer s H vs Q E hr h => ⟨t_Cutter_end K, PSs.nox ?_, pure_Cutter_end vs H Q E h⟩)
  · (repeat obtain ⟨_, h⟩ := h)
    subst_vars
    rfl
  · exact (pss_cons (ps_if (pt_cmpR op_gt (pe_fld (pv 0) rfl) pe_int (nomark _)) (pss_one (ps_expr (pe_bm PySem.F.plainAttrs_list PySem.F.slot_list_append PySem.F.type_list_append mt_append (pe_fld (pv 0) rfl) (pa_cons (pe_tup (pa_cons (pe_fld (pv 0) rfl) (pa_cons (pe_fld (pv 0) rfl) (pa_cons (pe_fld (pv 0) rfl) pa_nil)))) pa_nil)))) pss_nil) (pss_one (ps_fld (pv 0) pe_int rfl)))
theorem ok_Cutter_begin {f : Addr} {fd : FuncData} (T : Tp K mg) (F : FunD K "_begin" "Cutter._begin" (defArgs s_Cutter_begin) (defBody s_Cutter_begin) (defScope s_Cutter_begin) [] [] f fd) (G_Cutter_end : Me P w K mg base CX0 "Cutter" "_end" 1 ["self"] [] (sp_Cutter_end K)) : FnOk P w K mg base CX0 2 f fd ["self", "number"] (sp_Cutter_begin K) := by
  have := T.c_Cutter
  refine FunD.ok F sc_Cutter_begin (fun vs H Q E h => ?_) (fun cdv A outer s H vs Q E hr h => ⟨t_Cutter_begin K (sp_Cutter_end K), PSs.nox ?_, pure_Cutter_begin vs H Q E h⟩)
  · (repeat obtain ⟨_, h⟩ := h)
    subst_vars
    rfl
  · exact (pss_cons (ps_expr (pe_me0 G_Cutter_end (pv 0) (hr.mono (by decide)) pass0)) (pss_cons (ps_fld (pv 0) (pv 1) rfl) (pss_cons (ps_fld (pv 0) pe_int rfl) (pss_one (ps_fld (pv 0) pe_int rfl)))))
theorem ok_Cutter_add {f : Addr} {fd : FuncData} (T : Tp K mg) (F : FunD K "add" "Cutter.add" (defArgs s_Cutter_add) (defBody s_Cutter_add) (defScope s_Cutter_add) [] [] f fd) (G_Cutter_begin : Me P w K mg base CX0 "Cutter" "_begin" 2 ["self", "number"] [] (sp_Cutter_begin K)) : FnOk P w K mg base CX0 3 f fd ["self", "first", "step", "count"] (sp_Cutter_add K) := by
  have := T.c_Cutter
  refine FunD.ok F sc_Cutter_add (fun vs H Q E h => ?_) (fun cdv A outer s H vs Q E hr h => ⟨t_Cutter_add K (sp_Cutter_begin K), PSs.nox ?_, pure_Cutter_add vs H Q E h⟩)
  · (repeat obtain ⟨_, h⟩ := h)
    subst_vars
    rfl
  · exact (pss_one (ps_while PassesOwn.never (pt_cmpR op_gt (pv 3) pe_int (nomark _)) (pss_cons (ps_set (i := 4) sc_Cutter_add.nd rfl (Or.inl rfl) pe_int) (pss_cons (ps_if (pt_cmpR op_eq (pe_fld (pv 0) rfl) pe_int (nomark _)) (pss_one (ps_expr (pe_me G_Cutter_begin (pv 0) (hr.mono (by decide)) pass0 (pa_cons (pv 1) pa_nil)))) (pss_one (ps_if (pt_cmpR op_eq (pe_fld (pv 0) rfl) pe_int (nomark _)) (pss_cons (ps_fld (pv 0) (pe_op op_sub (pv 1) (pe_fld (pv 0) rfl)) rfl) (pss_one (ps_fld (pv 0) pe_int rfl))) (pss_one (ps_if (pt_cmpR op_ne (pv 1) (pe_op op_add (pe_fld (pv 0) rfl) (pe_op op_mul (pe_fld (pv 0) rfl) (pe_fld (pv 0) rfl))) (nomark _)) (pss_one (ps_expr (pe_me G_Cutter_begin (pv 0) (hr.mono (by decide)) pass0 (pa_cons (pv 1) pa_nil)))) (pss_cons (ps_set (i := 4) sc_Cutter_add.nd rfl (Or.inl rfl) (pe_ifExp (pt_cmpR op_eq (pv 2) (pe_fld (pv 0) rfl) (nomark _)) (pv 3) pe_int)) (pss_one (ps_fld (pv 0) (pe_op op_add (pe_fld (pv 0) rfl) (pv 4)) rfl)))))))) (pss_cons (ps_set (i := 1) sc_Cutter_add.nd rfl (Or.inl rfl) (pe_op op_add (pv 1) (pe_op op_mul (pv 2) (pv 4)))) (pss_one (ps_set (i := 3) sc_Cutter_add.nd rfl (Or.inl rfl) (pe_op op_sub (pv 3) (pv 4)))))))))
theorem ok_Cutter_progressions {f : Addr} {fd : FuncData} (T : Tp K mg) (F : FunD K "progressions" "Cutter.progressions" (defArgs s_Cutter_progressions) (defBody s_Cutter_progressions) (defScope s_Cutter_progressions) [] [] f fd) (G_Cutter_end : Me P w K mg base CX0 "Cutter" "_end" 1 ["self"] [] (sp_Cutter_end K)) : FnOk P w K mg base CX0 2 f fd ["self"] (sp_Cutter_progressions K) := by
  have := T.c_Cutter
  refine FunD.ok F sc_Cutter_progressions (fun vs H Q E h => ?_) (fun cdv A outer s H vs Q E hr h => ⟨t_Cutter_progressions K (sp_Cutter_end K), PSs.nox ?_, pure_Cutter_progressions vs H Q E h⟩)
  · (repeat obtain ⟨_, h⟩ := h)
    subst_vars
    rfl
  · exact (pss_cons (ps_expr (pe_me0 G_Cutter_end (pv 0) (hr.mono (by decide)) pass0)) (pss_one (ps_ret (pe_callTy call_tuple_of (by rfl) T.f_tuple (by decide +kernel) (pa_cons (pe_fld (pv 0) rfl) pa_nil)))))
theorem ok_cut {f : Addr} {fd : FuncData} (T : Tp K mg) (F : FunD K "cut" "cut" (defArgs s_cut) (defBody s_cut) (defScope s_cut) [] [] f fd) (G_Cutter_init : Mkr P w K mg base CX0 "Cutter" 1 ["self"] [] (sp_Cutter_init K)) (G_Cutter_add : Me P w K mg base CX0 "Cutter" "add" 3 ["self", "first", "step", "count"] [] (sp_Cutter_add K)) (G_Cutter_progressions : Me P w K mg base CX0 "Cutter" "progressions" 2 ["self"] [] (sp_Cutter_progressions K)) : FnOk P w K mg base CX0 4 f fd ["rows"] (sp_cut K) := by
  have := T.c_Cutter
  refine FunD.ok F sc_cut (fun vs H Q E h => ?_) (fun cdv A outer s H vs Q E hr h => ⟨t_cut K (sp_Cutter_init K) (sp_Cutter_add K) (sp_Cutter_progressions K), PSs.nox ?_, pure_cut vs H Q E h⟩)
  · (repeat obtain ⟨_, h⟩ := h)
    subst_vars
    rfl
  · exact (pss_cons (ps_set (i := 1) sc_cut.nd rfl (Or.inl rfl) (pe_mkr0 G_Cutter_init (hr.mono (by decide)) pass0)) (pss_cons (ps_for PassesOwn.never rfl (pi_lt (pv 0)) (pg_tup rfl (pgs_cons (pg_name (i := 2) sc_cut.nd rfl (Or.inl rfl)) (pgs_cons (pg_name (i := 3) sc_cut.nd rfl (Or.inl rfl)) (pgs_cons (pg_name (i := 4) sc_cut.nd rfl (Or.inl rfl)) pgs_nil)))) (pss_one (ps_expr (pe_me G_Cutter_add (pv 1) (hr.mono (by decide)) pass0 (pa_cons (pv 2) (pa_cons (pv 3) (pa_cons (pv 4) pa_nil))))))) (pss_one (ps_ret (pe_me0 G_Cutter_progressions (pv 1) (hr.mono (by decide)) pass0)))))
theorem ok_law_cut {f : Addr} {fd : FuncData} (T : Tp K mg) (F : FunD K "_law_cut" "_law_cut" (defArgs s_law_cut) (defBody s_law_cut) (defScope s_law_cut) [] [] f fd) : FnOk P w K mg base CX0 1 f fd ["_law_numbers"] (sp_law_cut K) := by
  have := T.c_Cutter
  refine FunD.ok F sc_law_cut (fun vs H Q E h => ?_) (fun cdv A outer s H vs Q E hr h => ⟨t_law_cut K, PSs.nox ?_, pure_law_cut vs H Q E h⟩)
  · (repeat obtain ⟨_, h⟩ := h)
    subst_vars
    rfl
  · exact (pss_cons (ps_set (i := 1) sc_law_cut.nd rfl (Or.inl rfl) (pe_lst pa_nil)) (pss_cons (ps_for PassesOwn.never rfl (pi_list (pv 0)) (pg_name (i := 2) sc_law_cut.nd rfl (Or.inl rfl)) (pss_one (ps_if (PW.pt (pw_and (pt_truth (pv 1) (by intro _; rfl)) (pw_and1 (pt_cmpR op_eq (pe_ix ix_seq (pe_ix ix_seq (pv 1) (pe_un un_neg pe_int) (fun _ _ => rfl)) pe_int (fun _ _ => rfl)) pe_int (nomark _))))) (pss_one (ps_asg (pe_tup (pa_cons (pe_ix ix_seq (pe_ix ix_seq (pv 1) (pe_un un_neg pe_int) (fun _ _ => rfl)) pe_int (fun _ _ => rfl)) (pa_cons (pe_op op_sub (pv 2) (pe_ix ix_seq (pe_ix ix_seq (pv 1) (pe_un un_neg pe_int) (fun _ _ => rfl)) pe_int (fun _ _ => rfl))) (pa_cons pe_int pa_nil)))) (pg_sub (pv 1) (pe_un un_neg pe_int) set_list))) (pss_one (ps_if (PW.pt (pw_and (pt_truth (pv 1) (by intro _; rfl)) (pw_and1 (pt_cmpR op_eq (pv 2) (pe_op op_add (pe_ix ix_seq (pe_ix ix_seq (pv 1) (pe_un un_neg pe_int) (fun _ _ => rfl)) pe_int (fun _ _ => rfl)) (pe_op op_mul (pe_ix ix_seq (pe_ix ix_seq (pv 1) (pe_un un_neg pe_int) (fun _ _ => rfl)) pe_int (fun _ _ => rfl)) (pe_ix ix_seq (pe_ix ix_seq (pv 1) (pe_un un_neg pe_int) (fun _ _ => rfl)) pe_int (fun _ _ => rfl)))) (nomark _))))) (pss_one (ps_asg (pe_tup (pa_cons (pe_ix ix_seq (pe_ix ix_seq (pv 1) (pe_un un_neg pe_int) (fun _ _ => rfl)) pe_int (fun _ _ => rfl)) (pa_cons (pe_ix ix_seq (pe_ix ix_seq (pv 1) (pe_un un_neg pe_int) (fun _ _ => rfl)) pe_int (fun _ _ => rfl)) (pa_cons (pe_op op_add (pe_ix ix_seq (pe_ix ix_seq (pv 1) (pe_un un_neg pe_int) (fun _ _ => rfl)) pe_int (fun _ _ => rfl)) pe_int) pa_nil)))) (pg_sub (pv 1) (pe_un un_neg pe_int) set_list))) (pss_one (ps_expr (pe_bm PySem.F.plainAttrs_list PySem.F.slot_list_append PySem.F.type_list_append mt_append (pv 1) (pa_cons (pe_tup (pa_cons (pv 2) (pa_cons pe_int (pa_cons pe_int pa_nil)))) pa_nil))))))))) (pss_one (ps_ret (pe_callTy call_tuple_of (by rfl) T.f_tuple (by decide +kernel) (pa_cons (pv 1) pa_nil))))))
theorem ok_law_rows {f : Addr} {fd : FuncData} (T : Tp K mg) (F : FunD K "_law_rows" "_law_rows" (defArgs s_law_rows) (defBody s_law_rows) (defScope s_law_rows) [] [] f fd) (G_law_take : Fn P w K mg base CX0 "_law_take" 2 ["_law_pool_here", "_law_many"] [] (sp_law_take K)) : FnOk P w K mg base CX0 4 f fd ["_law_pool_here"] (sp_law_rows K) := by
  have := T.c_Cutter
  refine FunD.ok F sc_law_rows (fun vs H Q E h => ?_) (fun cdv A outer s H vs Q E hr h => ⟨t_law_rows K (sp_law_take K), PSs.nox ?_, pure_law_rows vs H Q E h⟩)
  · (repeat obtain ⟨_, h⟩ := h)
    subst_vars
    rfl
  · exact (pss_cons (ps_set (i := 1) sc_law_rows.nd rfl (Or.inl rfl) (pe_lst pa_nil)) (pss_cons (ps_set (i := 2) sc_law_rows.nd rfl (Or.inl rfl) (pe_op op_sub (pe_fn G_law_take (hr.mono (by decide)) pass0 (pa_cons (pv 0) (pa_cons pe_int pa_nil))) pe_int)) (pss_cons (ps_set (i := 3) sc_law_rows.nd rfl (Or.inl rfl) (pe_op op_add pe_int (pe_fn G_law_take (hr.mono (by decide)) pass0 (pa_cons (pv 0) (pa_cons pe_int pa_nil))))) (pss_cons (ps_for PassesOwn.never rfl (pi_range1 (by rfl) T.f_range (pa_cons (pe_op op_add pe_int (pe_fn G_law_take (hr.mono (by decide)) pass0 (pa_cons (pv 0) (pa_cons pe_int pa_nil)))) pa_nil)) (pg_name (i := 4) sc_law_rows.nd rfl (Or.inl rfl)) (Evl.pss_cut (ps_set (i := 5) sc_law_rows.nd rfl (Or.inl rfl) (pe_ifExp (pt_cmpR op_eq (pe_fn G_law_take (hr.mono (by decide)) pass0 (pa_cons (pv 0) (pa_cons pe_int pa_nil))) pe_int (nomark _)) (pv 3) (pe_op op_add pe_int (pe_fn G_law_take (hr.mono (by decide)) pass0 (pa_cons (pv 0) (pa_cons pe_int pa_nil)))))) (Evl.pss_cut (ps_if (pt_cmpR op_eq (pe_fn G_law_take (hr.mono (by decide)) pass0 (pa_cons (pv 0) (pa_cons pe_int pa_nil))) pe_int (nomark _)) (pss_one (ps_set (i := 3) sc_law_rows.nd rfl (Or.inl rfl) (pe_op op_mul (pe_op op_add pe_int (pe_fn G_law_take (hr.mono (by decide)) pass0 (pa_cons (pv 0) (pa_cons pe_int pa_nil)))) (pe_ix ix_seq (pe_tup (pa_cons pe_int (pa_cons (pe_op op_pow pe_int pe_int) pa_nil))) (pe_callTy call_int1 (by rfl) T.f_int (by decide +kernel) (pa_cons (pe_cmpR op_eq (pe_fn G_law_take (hr.mono (by decide)) pass0 (pa_cons (pv 0) (pa_cons pe_int pa_nil))) pe_int (nomark _)) pa_nil)) (fun _ _ => rfl))))) pss_nil) (pss_cons (ps_set (i := 6) sc_law_rows.nd rfl (Or.inl rfl) (pe_op op_add pe_int (pe_fn G_law_take (hr.mono (by decide)) pass0 (pa_cons (pv 0) (pa_cons pe_int pa_nil))))) (pss_cons (ps_set (i := 7) sc_law_rows.nd rfl (Or.inl rfl) (pe_op op_add (pv 2) (pv 5))) (pss_cons (ps_expr (pe_bm PySem.F.plainAttrs_list PySem.F.slot_list_append PySem.F.type_list_append mt_append (pv 1) (pa_cons (pe_tup (pa_cons (pv 7) (pa_cons (pe_ifExp (pt_cmpR op_gt (pv 6) pe_int (nomark _)) (pv 3) pe_int) (pa_cons (pv 6) pa_nil)))) pa_nil))) (pss_one (ps_set (i := 2) sc_law_rows.nd rfl (Or.inl rfl) (pe_op op_add (pv 7) (pe_op op_mul (pv 3) (pe_op op_sub (pv 6) pe_int))))))))))) (pss_one (ps_ret (pv 1)))))))
theorem ok_law {f : Addr} {fd : FuncData} (T : Tp K mg) (F : FunD K "law" "law" (defArgs s_law) (defBody s_law) (defScope s_law) [] [] f fd) (G_law_pool : Fn P w K mg base CX0 "_law_pool" 1 ["_law_script"] [] (sp_law_pool K)) (G_law_rows : Fn P w K mg base CX0 "_law_rows" 4 ["_law_pool_here"] [] (sp_law_rows K)) (G_law_cut : Fn P w K mg base CX0 "_law_cut" 1 ["_law_numbers"] [] (sp_law_cut K)) (G_law_take : Fn P w K mg base CX0 "_law_take" 2 ["_law_pool_here", "_law_many"] [] (sp_law_take K)) (G_cut : Fn P w K mg base CX0 "cut" 4 ["rows"] [] (sp_cut K)) (G_law_same : Fn P w K mg base CX0 "_law_same" 5 ["_law_actual", "_law_due"] [] (sp_law_same K 3)) : FnOk P w K mg base CX0 8 f fd ["_law_script"] (sp_law K) := by
  have := T.c_Cutter
  refine FunD.ok F sc_law (fun vs H Q E h => ?_) (fun cdv A outer s H vs Q E hr h => ⟨t_law K (sp_law_pool K) (sp_law_rows K) (sp_law_cut K) (sp_law_take K) (sp_cut K) (sp_law_same K 3), PSs.nox ?_, pure_law vs H Q E h⟩)
  · (repeat obtain ⟨_, h⟩ := h)
    subst_vars
    rfl
  · exact (pss_cons (ps_set (i := 1) sc_law.nd rfl (Or.inl rfl) (pe_fn G_law_pool (hr.mono (by decide)) pass0 (pa_cons (pv 0) pa_nil))) (pss_cons (ps_set (i := 2) sc_law.nd rfl (Or.inl rfl) (pe_fn G_law_rows (hr.mono (by decide)) pass0 (pa_cons (pv 1) pa_nil))) (pss_cons (ps_set (i := 3) sc_law.nd rfl (Or.inl rfl) (pe_lst pa_nil)) (pss_cons (ps_for PassesOwn.never rfl (pi_list (pv 2)) (pg_tup rfl (pgs_cons (pg_name (i := 4) sc_law.nd rfl (Or.inr rfl)) (pgs_cons (pg_name (i := 5) sc_law.nd rfl (Or.inr rfl)) (pgs_cons (pg_name (i := 6) sc_law.nd rfl (Or.inl rfl)) pgs_nil)))) (pss_one (ps_expr (pe_bm PySem.F.plainAttrs_list PySem.F.slot_list_extend PySem.F.type_list_extend mt_extend (pv 3) (pa_cons (pe_lc (own := [("_law_k", 11)]) (g := (gName 11)) (tt := tYes) (by rfl) sc_law.nd (pi_range1 (by rfl) T.f_range (pa_cons (pv 6) pa_nil)) (blkOk_by (own := [("_law_k", 11)]) (N := N_law) (sc := defScope s_law) (by decide +kernel)) (fun _ _ _ _ _ => (pg_name (i := 11) sc_law.nd rfl (Or.inl rfl))) (fun _ _ _ _ _ => pts_nil) (fun _ _ _ _ _ => (pe_op op_add (pv 4) (pe_op op_mul (pv 5) (pv 11))))) pa_nil))))) (pss_cons (ps_set (i := 7) sc_law.nd rfl (Or.inl rfl) (pe_callTy call_list_of (by rfl) T.f_list (by decide +kernel) (pa_cons (pe_fn G_law_cut (hr.mono (by decide)) pass0 (pa_cons (pv 3) pa_nil)) pa_nil))) (pss_cons (ps_set (i := 8) sc_law.nd rfl (Or.inl rfl) (pe_ix ix_seq (pv 2) (pe_un un_neg pe_int) (fun _ _ => rfl))) (Evl.pss_cut (ps_if (PW.pt (pw_and (pt_cmpR op_gt (pe_ix ix_seq (pv 8) pe_int (fun _ _ => rfl)) pe_int (nomark _)) (pw_and1 (pt_cmpR op_eq (pe_fn G_law_take (hr.mono (by decide)) pass0 (pa_cons (pv 1) (pa_cons pe_int pa_nil))) pe_int (nomark _))))) (pss_cons (ps_set (i := 9) sc_law.nd rfl (Or.inl rfl) (pe_fn G_law_take (hr.mono (by decide)) pass0 (pa_cons (pv 1) (pa_cons (pe_op op_pow pe_int pe_int) pa_nil)))) (pss_cons (ps_asg (pe_tup (pa_cons (pe_ix ix_seq (pv 8) pe_int (fun _ _ => rfl)) (pa_cons (pe_ix ix_seq (pv 8) pe_int (fun _ _ => rfl)) (pa_cons (pe_op op_add (pe_ix ix_seq (pv 8) pe_int (fun _ _ => rfl)) (pv 9)) pa_nil)))) (pg_sub (pv 2) (pe_un un_neg pe_int) set_list)) (pss_one (ps_asg (pe_tup (pa_cons (pe_ix ix_seq (pe_ix ix_seq (pv 7) (pe_un un_neg pe_int) (fun _ _ => rfl)) pe_int (fun _ _ => rfl)) (pa_cons (pe_ix ix_seq (pe_ix ix_seq (pv 7) (pe_un un_neg pe_int) (fun _ _ => rfl)) pe_int (fun _ _ => rfl)) (pa_cons (pe_op op_add (pe_ix ix_seq (pe_ix ix_seq (pv 7) (pe_un un_neg pe_int) (fun _ _ => rfl)) pe_int (fun _ _ => rfl)) (pv 9)) pa_nil)))) (pg_sub (pv 7) (pe_un un_neg pe_int) set_list))))) pss_nil) (pss_cons (ps_set (i := 10) sc_law.nd rfl (Or.inl rfl) (pe_fn G_cut (hr.mono (by decide)) pass0 (pa_cons (pe_callTy call_list_of (by rfl) T.f_list (by decide +kernel) (pa_cons (pv 2) pa_nil)) pa_nil))) (pss_one (ps_ret (pe_and (pe_fn G_law_same (hr.mono (by decide)) pass0 (pa_cons (pv 10) (pa_cons (pe_callTy call_tuple_of (by rfl) T.f_tuple (by decide +kernel) (pa_cons (pv 7) pa_nil)) pa_nil))) (pe_and (pe_fn G_law_same (hr.mono (by decide)) pass0 (pa_cons (pe_fn G_cut (hr.mono (by decide)) pass0 (pa_cons (pe_callTy call_tuple_of (by rfl) T.f_tuple (by decide +kernel) (pa_cons (pv 2) pa_nil)) pa_nil)) (pa_cons (pv 10) pa_nil))) (pe_one (pe_fn G_law_same (hr.mono (by decide)) pass0 (pa_cons (pe_fn G_cut (hr.mono (by decide)) pass0 (pa_cons (pv 10) pa_nil)) (pa_cons (pv 10) pa_nil))))))))))))))))
end
/-! ### the head -/
def d_law_pool : He.DefD := ⟨("_law_pool", none), "_law_pool", "_law_pool", defArgs s_law_pool, defBody s_law_pool, defScope s_law_pool, [], []⟩
def d_law_take : He.DefD := ⟨("_law_take", none), "_law_take", "_law_take", defArgs s_law_take, defBody s_law_take, defScope s_law_take, [], []⟩
def d_law_is_integer : He.DefD := ⟨("_law_is_integer", none), "_law_is_integer", "_law_is_integer", defArgs s_law_is_integer, defBody s_law_is_integer, defScope s_law_is_integer, [], []⟩
def d_law_same : He.DefD := ⟨("_law_same", none), "_law_same", "_law_same", defArgs s_law_same, defBody s_law_same, defScope s_law_same, [], []⟩
def d_Cutter_init : He.DefD := ⟨("Cutter", some "__init__"), "__init__", "Cutter.__init__", defArgs s_Cutter_init, defBody s_Cutter_init, defScope s_Cutter_init, [], []⟩
def d_Cutter_end : He.DefD := ⟨("Cutter", some "_end"), "_end", "Cutter._end", defArgs s_Cutter_end, defBody s_Cutter_end, defScope s_Cutter_end, [], []⟩
def d_Cutter_begin : He.DefD := ⟨("Cutter", some "_begin"), "_begin", "Cutter._begin", defArgs s_Cutter_begin, defBody s_Cutter_begin, defScope s_Cutter_begin, [], []⟩
def d_Cutter_add : He.DefD := ⟨("Cutter", some "add"), "add", "Cutter.add", defArgs s_Cutter_add, defBody s_Cutter_add, defScope s_Cutter_add, [], []⟩
def d_Cutter_progressions : He.DefD := ⟨("Cutter", some "progressions"), "progressions", "Cutter.progressions", defArgs s_Cutter_progressions, defBody s_Cutter_progressions, defScope s_Cutter_progressions, [], []⟩
def d_cut : He.DefD := ⟨("cut", none), "cut", "cut", defArgs s_cut, defBody s_cut, defScope s_cut, [], []⟩
def d_law_cut : He.DefD := ⟨("_law_cut", none), "_law_cut", "_law_cut", defArgs s_law_cut, defBody s_law_cut, defScope s_law_cut, [], []⟩
def d_law_rows : He.DefD := ⟨("_law_rows", none), "_law_rows", "_law_rows", defArgs s_law_rows, defBody s_law_rows, defScope s_law_rows, [], []⟩
def d_law : He.DefD := ⟨("law", none), "law", "law", defArgs s_law, defBody s_law, defScope s_law, [], []⟩
def fnL : List He.DefD := [d_law_pool, d_law_take, d_law_is_integer, d_law_same, d_Cutter_init, d_Cutter_end, d_Cutter_begin, d_Cutter_add, d_Cutter_progressions, d_cut, d_law_cut, d_law_rows, d_law]
def faL : List He.Fa := [.free "all", .free "bool", .free "int", .free "isinstance", .free "len", .free "list", .free "range", .free "str", .free "tuple", .cls "Cutter", .noat "Cutter" "found", .noat "Cutter" "_first", .noat "Cutter" "_step", .noat "Cutter" "_count", .glo "_law_pool", .glo "_law_take", .glo "_law_is_integer", .glo "_law_same", .mkr "Cutter", .glo "Cutter", .meth "Cutter" "_end", .meth "Cutter" "_begin", .meth "Cutter" "add", .meth "Cutter" "progressions", .glo "cut", .glo "_law_cut", .glo "_law_rows", .glo "law"]
abbrev R : PySem.W.OpenRow := PySem.W.OpenLaw.row PySem.Challenge.rw_shortheld_k18_progressions
abbrev hk : PySem.W.Hook := He.hookD 5 faL fnL
def ob (s : PySem.W.SharedT) : He.AlD := He.obsDG 5 faL fnL (HandSHeadRun.getT s)
theorem ob_eq (s : PySem.W.SharedT) : ob s = hk.obs s.abs := He.obsDG_eq (HandSHeadRun.getT_eq s)
def names : List PySem.Str := ["Cutter", "cut", "_law_pool", "_law_take", "_law_is_integer", "_law_same", "_law_cut", "_law_rows"]
theorem run (w : World) : HandSHeadRun.RunEq R (PySem.W.view R.prog [10]) hk ob 4000 names w := by
  intro os
  kernel_rfl
theorem facts {P : Program} {w : World} {K : PySem.W.Frag} {h : Heap} {mg : Str → Option Value} {f : Addr} (X : K.In h) (Gn : h.Ns mainGlobals mg) (hfa : mg ("law" : Str) = some (.ref f)) (c : He.SaysD faL fnL K) :
    ∃ fd : FuncData, (∀ (s : Shared) (v : Value), BindsTo s fd ⟨[v], []⟩ [("_law_script", v)]) ∧ ∀ base : Heap, K.In base → base.Ns mainGlobals mg → FnOk P w K mg base CX0 8 f fd ["_law_script"] (sp_law K) := by
  obtain ⟨fd_law_pool, F_law_pool⟩ := c.def_ 0 (d := d_law_pool) rfl
  obtain ⟨fd_law_take, F_law_take⟩ := c.def_ 1 (d := d_law_take) rfl
  obtain ⟨fd_law_is_integer, F_law_is_integer⟩ := c.def_ 2 (d := d_law_is_integer) rfl
  obtain ⟨fd_law_same, F_law_same⟩ := c.def_ 3 (d := d_law_same) rfl
  obtain ⟨fd_Cutter_init, F_Cutter_init⟩ := c.def_ 4 (d := d_Cutter_init) rfl
  obtain ⟨fd_Cutter_end, F_Cutter_end⟩ := c.def_ 5 (d := d_Cutter_end) rfl
  obtain ⟨fd_Cutter_begin, F_Cutter_begin⟩ := c.def_ 6 (d := d_Cutter_begin) rfl
  obtain ⟨fd_Cutter_add, F_Cutter_add⟩ := c.def_ 7 (d := d_Cutter_add) rfl
  obtain ⟨fd_Cutter_progressions, F_Cutter_progressions⟩ := c.def_ 8 (d := d_Cutter_progressions) rfl
  obtain ⟨fd_cut, F_cut⟩ := c.def_ 9 (d := d_cut) rfl
  obtain ⟨fd_law_cut, F_law_cut⟩ := c.def_ 10 (d := d_law_cut) rfl
  obtain ⟨fd_law_rows, F_law_rows⟩ := c.def_ 11 (d := d_law_rows) rfl
  obtain ⟨fd_law, F_law⟩ := c.def_ 12 (d := d_law) rfl
  have e := hfa.symm.trans (He.glo_ok X Gn (c.fact 27 (f := .glo "law") rfl))
  cases e
  have T : Tp K mg := ⟨He.free_ok X Gn (c.fact 0 (f := .free "all") rfl), He.free_ok X Gn (c.fact 1 (f := .free "bool") rfl), He.free_ok X Gn (c.fact 2 (f := .free "int") rfl), He.free_ok X Gn (c.fact 3 (f := .free "isinstance") rfl), He.free_ok X Gn (c.fact 4 (f := .free "len") rfl), He.free_ok X Gn (c.fact 5 (f := .free "list") rfl), He.free_ok X Gn (c.fact 6 (f := .free "range") rfl), He.free_ok X Gn (c.fact 7 (f := .free "str") rfl), He.free_ok X Gn (c.fact 8 (f := .free "tuple") rfl), ⟨He.cls_ok (c.fact 9 (f := .cls "Cutter") rfl), by decide +kernel, fun f hf => by
    simp only [ns_Cutter, List.mem_cons, List.not_mem_nil, or_false] at hf
    rcases hf with rfl | rfl | rfl | rfl
    · exact He.noat_ok (c.fact 10 (f := .noat "Cutter" "found") rfl)
    · exact He.noat_ok (c.fact 11 (f := .noat "Cutter" "_first") rfl)
    · exact He.noat_ok (c.fact 12 (f := .noat "Cutter" "_step") rfl)
    · exact He.noat_ok (c.fact 13 (f := .noat "Cutter" "_count") rfl)
    , by decide +kernel⟩⟩
  have b := FunD.bindsA (ps := ["_law_script"]) F_law fun _ _ _ _ _ _ us hl => match us, hl with | [_], _ => rfl
  refine ⟨fd_law, fun s v => b s [v] rfl, fun base _ _ => ?_⟩
  have G_law_pool : Fn P w K mg base CX0 "_law_pool" 1 ["_law_script"] [] (sp_law_pool K) := ⟨⟨fd_law_pool, [], (ok_law_pool T F_law_pool ), (FunD.bindsN F_law_pool fun _ _ _ _ _ _ us hl => match us, hl with | [_], _ => rfl), .nil⟩, F_law_pool.kp, He.glo_ok X Gn (c.fact 14 (f := .glo "_law_pool") rfl)⟩
  have G_take0 : Fn P w K mg base CX0 "_law_take" 0 ["_law_pool_here", "_law_many"] [] (fun _ _ _ _ => False) := ⟨⟨fd_law_take, [], ⟨fun _ _ _ _ h => False.elim h, fun _ _ _ _ _ _ _ _ _ _ _ _ _ h => False.elim h⟩, (FunD.bindsN F_law_take fun _ _ _ _ _ _ us hl => match us, hl with | [_, _], _ => rfl), .nil⟩, F_law_take.kp, He.glo_ok X Gn (c.fact 15 (f := .glo "_law_take") rfl)⟩
  have G_take1 : Fn P w K mg base CX0 "_law_take" 1 ["_law_pool_here", "_law_many"] [] (sp_law_take0 K) := ⟨⟨fd_law_take, [], (ok_law_take T F_law_take G_take0 (fun vs H Q E h => by (repeat obtain ⟨_, h⟩ := h); subst_vars; rfl) (pure_law_take0 _)), (FunD.bindsN F_law_take fun _ _ _ _ _ _ us hl => match us, hl with | [_, _], _ => rfl), .nil⟩, F_law_take.kp, He.glo_ok X Gn (c.fact 15 (f := .glo "_law_take") rfl)⟩
  have G_law_take : Fn P w K mg base CX0 "_law_take" 2 ["_law_pool_here", "_law_many"] [] (sp_law_take K) := ⟨⟨fd_law_take, [], (ok_law_take T F_law_take G_take1 (fun vs H Q E h => by (repeat obtain ⟨_, h⟩ := h); subst_vars; rfl) pure_law_take), (FunD.bindsN F_law_take fun _ _ _ _ _ _ us hl => match us, hl with | [_, _], _ => rfl), .nil⟩, F_law_take.kp, He.glo_ok X Gn (c.fact 15 (f := .glo "_law_take") rfl)⟩
  have G_law_is_integer : Fn P w K mg base CX0 "_law_is_integer" 1 ["_law_actual"] [] (sp_law_is_integer) := ⟨⟨fd_law_is_integer, [], (ok_law_is_integer T F_law_is_integer ), (FunD.bindsN F_law_is_integer fun _ _ _ _ _ _ us hl => match us, hl with | [_], _ => rfl), .nil⟩, F_law_is_integer.kp, He.glo_ok X Gn (c.fact 16 (f := .glo "_law_is_integer") rfl)⟩
  have G_same0 : Fn P w K mg base CX0 "_law_same" 1 ["_law_actual", "_law_due"] [] (fun _ _ _ _ => False) := ⟨⟨fd_law_same, [], ⟨fun _ _ _ _ h => False.elim h, fun _ _ _ _ _ _ _ _ _ _ _ _ _ h => False.elim h⟩, (FunD.bindsN F_law_same fun _ _ _ _ _ _ us hl => match us, hl with | [_, _], _ => rfl), .nil⟩, F_law_same.kp, He.glo_ok X Gn (c.fact 17 (f := .glo "_law_same") rfl)⟩
  have G_sameN : ∀ n, Fn P w K mg base CX0 "_law_same" (n + 2) ["_law_actual", "_law_due"] [] (sp_law_same K n) := fun n => by
    induction n with
    | zero => exact ⟨⟨fd_law_same, [], (ok_law_same T F_law_same G_same0 G_law_is_integer (by omega) (fun vs H Q E h => by (repeat obtain ⟨_, h⟩ := h); subst_vars; rfl) (pure_law_same 0 _ fun m e => by omega)), (FunD.bindsN F_law_same fun _ _ _ _ _ _ us hl => match us, hl with | [_, _], _ => rfl), .nil⟩, F_law_same.kp, He.glo_ok X Gn (c.fact 17 (f := .glo "_law_same") rfl)⟩
    | succ n ih => exact ⟨⟨fd_law_same, [], (ok_law_same T F_law_same ih G_law_is_integer (by omega) (fun vs H Q E h => by (repeat obtain ⟨_, h⟩ := h); subst_vars; rfl) (pure_law_same (n + 1) _ fun m e => by cases e; exact fun _ _ _ _ h => h)), (FunD.bindsN F_law_same fun _ _ _ _ _ _ us hl => match us, hl with | [_, _], _ => rfl), .nil⟩, F_law_same.kp, He.glo_ok X Gn (c.fact 17 (f := .glo "_law_same") rfl)⟩
  have G_law_same := G_sameN 3
  have G_Cutter_init : Mkr P w K mg base CX0 "Cutter" 1 ["self"] [] (sp_Cutter_init K) := ⟨⟨fd_Cutter_init, [], (ok_Cutter_init T F_Cutter_init ), (FunD.bindsN F_Cutter_init fun _ _ _ _ _ _ us hl => match us, hl with | [_], _ => rfl), .nil⟩, He.mkr_ok (c.fact 18 (f := .mkr "Cutter") rfl), He.glo_ok X Gn (c.fact 19 (f := .glo "Cutter") rfl)⟩
  have G_Cutter_end : Me P w K mg base CX0 "Cutter" "_end" 1 ["self"] [] (sp_Cutter_end K) := ⟨⟨fd_Cutter_end, [], (ok_Cutter_end T F_Cutter_end ), (FunD.bindsN F_Cutter_end fun _ _ _ _ _ _ us hl => match us, hl with | [_], _ => rfl), .nil⟩, He.cls_ok (c.fact 9 (f := .cls "Cutter") rfl), He.meth_ok (c.fact 20 (f := .meth "Cutter" "_end") rfl)⟩
  have G_Cutter_begin : Me P w K mg base CX0 "Cutter" "_begin" 2 ["self", "number"] [] (sp_Cutter_begin K) := ⟨⟨fd_Cutter_begin, [], (ok_Cutter_begin T F_Cutter_begin G_Cutter_end), (FunD.bindsN F_Cutter_begin fun _ _ _ _ _ _ us hl => match us, hl with | [_, _], _ => rfl), .nil⟩, He.cls_ok (c.fact 9 (f := .cls "Cutter") rfl), He.meth_ok (c.fact 21 (f := .meth "Cutter" "_begin") rfl)⟩
  have G_Cutter_add : Me P w K mg base CX0 "Cutter" "add" 3 ["self", "first", "step", "count"] [] (sp_Cutter_add K) := ⟨⟨fd_Cutter_add, [], (ok_Cutter_add T F_Cutter_add G_Cutter_begin), (FunD.bindsN F_Cutter_add fun _ _ _ _ _ _ us hl => match us, hl with | [_, _, _, _], _ => rfl), .nil⟩, He.cls_ok (c.fact 9 (f := .cls "Cutter") rfl), He.meth_ok (c.fact 22 (f := .meth "Cutter" "add") rfl)⟩
  have G_Cutter_progressions : Me P w K mg base CX0 "Cutter" "progressions" 2 ["self"] [] (sp_Cutter_progressions K) := ⟨⟨fd_Cutter_progressions, [], (ok_Cutter_progressions T F_Cutter_progressions G_Cutter_end), (FunD.bindsN F_Cutter_progressions fun _ _ _ _ _ _ us hl => match us, hl with | [_], _ => rfl), .nil⟩, He.cls_ok (c.fact 9 (f := .cls "Cutter") rfl), He.meth_ok (c.fact 23 (f := .meth "Cutter" "progressions") rfl)⟩
  have G_cut : Fn P w K mg base CX0 "cut" 4 ["rows"] [] (sp_cut K) := ⟨⟨fd_cut, [], (ok_cut T F_cut G_Cutter_init G_Cutter_add G_Cutter_progressions), (FunD.bindsN F_cut fun _ _ _ _ _ _ us hl => match us, hl with | [_], _ => rfl), .nil⟩, F_cut.kp, He.glo_ok X Gn (c.fact 24 (f := .glo "cut") rfl)⟩
  have G_law_cut : Fn P w K mg base CX0 "_law_cut" 1 ["_law_numbers"] [] (sp_law_cut K) := ⟨⟨fd_law_cut, [], (ok_law_cut T F_law_cut ), (FunD.bindsN F_law_cut fun _ _ _ _ _ _ us hl => match us, hl with | [_], _ => rfl), .nil⟩, F_law_cut.kp, He.glo_ok X Gn (c.fact 25 (f := .glo "_law_cut") rfl)⟩
  have G_law_rows : Fn P w K mg base CX0 "_law_rows" 4 ["_law_pool_here"] [] (sp_law_rows K) := ⟨⟨fd_law_rows, [], (ok_law_rows T F_law_rows G_law_take), (FunD.bindsN F_law_rows fun _ _ _ _ _ _ us hl => match us, hl with | [_], _ => rfl), .nil⟩, F_law_rows.kp, He.glo_ok X Gn (c.fact 26 (f := .glo "_law_rows") rfl)⟩
  exact ok_law T F_law G_law_pool G_law_rows G_law_cut G_law_take G_cut G_law_same
end Sh
open PySem PySem.W PySem.Calls PyProof.Rows
set_option maxRecDepth 100000 in
set_option maxHeartbeats 0 in
theorem PySem.Challenge.cw_shortheld_k18_progressions_holds : PySem.Challenge.rw_shortheld_k18_progressions.Holds := by
  w_on; o_law
  refine HandSHeadRun.head_any (r := OpenLaw.row PySem.Challenge.rw_shortheld_k18_progressions) (q := view (OpenLaw.row PySem.Challenge.rw_shortheld_k18_progressions).prog [10]) (H := Sh.hk) (ob := Sh.ob) (M := 4000) (loose := Sh.names) (d := HandSHeadRun.topDef (OpenLaw.row PySem.Challenge.rw_shortheld_k18_progressions).prog 10) (kwd := []) Sh.ob_eq
    (by kernel_rfl) (fun s => by kernel_rfl) Sh.run (by kernel_rfl) (by kernel_rfl) (by kernel_rfl) (by rfl) (by first | assumption | decide +kernel) (by decide +kernel) ⟨rfl, rfl, rfl, rfl, rfl, by decide +kernel⟩ ?hw ?hc
  case hw => w_witness2
  case hc =>
    refine L2.walk_ofE (l := PySem.Challenge.rw_shortheld_k18_progressions) (n := 63) (k := 8) (x := "_law_script") (CX := L2.CX0) rfl (by decide) (by kernel_rfl) ⟨rfl, by decide, by decide⟩ ?F (fun _ _ _ _ z => z)
    intro w mg fa h Y G hmg0
    obtain ⟨K, KX, c⟩ := Y
    have hmg : mg ("law" : PySem.Str) = some (.ref fa) := by
      have e : (HandSHeadRun.topDef (OpenLaw.row PySem.Challenge.rw_shortheld_k18_progressions).prog 10).name = ("law" : PySem.Str) := by kernel_rfl
      rw [← e]
      exact hmg0
    obtain ⟨fd, hb, hF⟩ := Sh.facts (P := (PySem.Challenge.rw_shortheld_k18_progressions).prog) (w := w) KX G hmg c
    exact ⟨K, fd, Sh.sp_law K, KX, hb, fun H a ns hl _ hS => ⟨a, ns, rfl, hS, hl, fun _ => rfl⟩, hF⟩
#print axioms PySem.Challenge.cw_shortheld_k18_progressions_holds

