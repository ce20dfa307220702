import PyProof.Rows.All
import Wide.All
import OpenK.AllK
import Wide.FinOn
import HandS.ForMost
import HandS.ForExc
import HandS.Wide
import HandS.IsInst
import HandS.Evl
import HandS.HeadEnd
import HandS.HeadHook2
import HandS.Head2
import HandS.Text
import HandS.StrMore
import HandS.Style
import HandS.Codes
import HandS.Walk
import KE.KRevSl
import HandS.ExcInit
import HandS.ExcOwn
import HandS.TryOnly
import HandS.ExcField
import KE.KExcIs
import HandS.ExcIs
import HandS.HeadHook4
import PySem.Challenge.RW_shortheld_k05_whole_other_rules
set_option Elab.async false
set_option linter.all false
set_option maxRecDepth 100000
set_option maxHeartbeats 4000000
/-! # The base: what is frozen, what is owned; steps of readings -/
namespace Sh
open PySem PySem.Spec PyProof.Rows L2

/-! ### heaps: F frozen for good, M owned (may still change), H as it is -/
abbrev Ow := List (Addr × HO)
class Hs (F : outParam Hp) (M : outParam Ow) (H : Hp) : Prop where
  fz : Same F H
  ow : ∀ (i : Nat) p o, M[i]? = some (p, o) → H p = some o
  fr : ∀ (i : Nat) p o, M[i]? = some (p, o) → F p = none
  nd : ∀ (i j : Nat) p o o', M[i]? = some (p, o) → M[j]? = some (p, o') → i = j
theorem same_upd {H : Hp} {p : Addr} {o : HO} (h : H p = none) : Same H (upd H p o) := fun b x e => by
  rw [upd_ne (ne_of_none e h)]
  exact e
section
variable {F F' H : Hp} {M : Ow} {p a : Addr} {o o' u : HO} {j : Nat}
theorem Hs.start : Hs H [] H := ⟨Same.refl H, fun i p o e => by simp at e, fun i p o e => by simp at e, fun i j p o o' e => by simp at e⟩
theorem Hs.f (h : Hs F M H) (e : F a = some u) : H a = some u := h.fz _ _ e
theorem Hs.at (h : Hs F M H) (e : M[j]? = some (a, u)) : H a = some u := h.ow _ _ _ e
theorem Hs.free (h : Hs F M H) (e : H p = none) : F p = none := h.fz.free e
theorem Hs.new (h : Hs F M H) (hp : H p = none) : Hs F ((p, o) :: M) (upd H p o) := by
  refine ⟨h.fz.trans (same_upd hp), fun i q u e => ?_, fun i q u e => ?_, fun i j q u u' e e' => ?_⟩
  · cases i with
    | zero => simp at e; obtain ⟨rfl, rfl⟩ := e; exact upd_same
    | succ i =>
      have e1 := h.ow i q u (by simpa using e)
      rw [upd_ne (ne_of_none e1 hp)]; exact e1
  · cases i with
    | zero => simp at e; obtain ⟨rfl, rfl⟩ := e; exact h.free hp
    | succ i => exact h.fr i q u (by simpa using e)
  · cases i with
    | zero =>
      simp at e; obtain ⟨rfl, rfl⟩ := e
      cases j with
      | zero => rfl
      | succ j =>
        have e1 := h.ow j p u' (by simpa using e')
        rw [hp] at e1; cases e1
    | succ i =>
      cases j with
      | zero =>
        simp at e'; obtain ⟨rfl, rfl⟩ := e'
        have e1 := h.ow i p u (by simpa using e)
        rw [hp] at e1; cases e1
      | succ j => exact congrArg (· + 1) (h.nd i j q u u' (by simpa using e) (by simpa using e'))
theorem Hs.newF (h : Hs F M H) (hp : H p = none) : Hs (upd F p o) M (upd H p o) := by
  refine ⟨fun b u e => ?_, fun i q u e => ?_, fun i q u e => ?_, h.nd⟩
  · by_cases hb : b = p
    · subst hb; rw [upd_same] at e ⊢; exact e
    · rw [upd_ne hb] at e ⊢; exact h.fz _ _ e
  · have e1 := h.ow i q u e
    rw [upd_ne (ne_of_none e1 hp)]; exact e1
  · have e1 := h.ow i q u e
    rw [upd_ne (ne_of_none e1 hp)]; exact h.fr i q u e
theorem Hs.set (h : Hs F M H) (hm : M[j]? = some (p, o)) : Hs F (M.set j (p, o')) (upd H p o') := by
  have hj : j < M.length := (List.getElem?_eq_some_iff.mp hm).1
  have key : ∀ (i : Nat) q u, (M.set j (p, o'))[i]? = some (q, u) → (i = j ∧ q = p ∧ u = o') ∨ (i ≠ j ∧ M[i]? = some (q, u)) := fun i q u e => by
    by_cases hi : i = j
    · subst hi
      rw [List.getElem?_set_self hj] at e
      cases e; exact .inl ⟨rfl, rfl, rfl⟩
    · rw [List.getElem?_set_ne (Ne.symm hi)] at e
      exact .inr ⟨hi, e⟩
  refine ⟨fun b u e => ?_, fun i q u e => ?_, fun i q u e => ?_, fun i k q u u' e e' => ?_⟩
  · have hb : b ≠ p := fun z => by rw [z, h.fr j p o hm] at e; cases e
    rw [upd_ne hb]; exact h.fz _ _ e
  · rcases key i q u e with ⟨_, z1, z2⟩ | ⟨hi, e1⟩
    · rw [z1, z2]; exact upd_same
    · have hq : q ≠ p := fun z => hi (h.nd i j q u o e1 (by rw [z]; exact hm))
      rw [upd_ne hq]; exact h.ow i q u e1
  · rcases key i q u e with ⟨_, z1, z2⟩ | ⟨hi, e1⟩
    · rw [z1]; exact h.fr j _ o hm
    · exact h.fr i q u e1
  · rcases key i q u e with ⟨z1, z2, _⟩ | ⟨_, e1⟩
    · rcases key k q u' e' with ⟨z3, _, _⟩ | ⟨_, e2⟩
      · rw [z1, z3]
      · rw [z1]; rw [z2] at e2; exact h.nd _ _ _ _ _ hm e2
    · rcases key k q u' e' with ⟨z3, z4, _⟩ | ⟨_, e2⟩
      · rw [z3]; rw [z4] at e1; exact h.nd _ _ _ _ _ e1 hm
      · exact h.nd _ _ _ _ _ e1 e2
theorem get_erase {α : Type} {l : List α} {i j : Nat} {x : α} (e : (l.eraseIdx j)[i]? = some x) : ∃ i', i' ≠ j ∧ l[i']? = some x ∧ i = (if i' < j then i' else i' - 1) := by
  rw [List.getElem?_eraseIdx] at e
  split at e
  · exact ⟨i, by omega, e, by rw [if_pos (by assumption)]⟩
  · exact ⟨i + 1, by omega, e, by rw [if_neg (by omega)]; omega⟩
theorem Hs.drop (h : Hs F M H) (j : Nat) : Hs F (M.eraseIdx j) H := by
  refine ⟨h.fz, fun i q u e => ?_, fun i q u e => ?_, fun i k q u u' e e' => ?_⟩
  · obtain ⟨i', _, e, _⟩ := get_erase e; exact h.ow _ _ _ e
  · obtain ⟨i', _, e, _⟩ := get_erase e; exact h.fr _ _ _ e
  · obtain ⟨i', _, e, z⟩ := get_erase e
    obtain ⟨k', _, e', z'⟩ := get_erase e'
    have := h.nd _ _ _ _ _ e e'
    subst this; rw [z, z']
theorem Hs.freeze (h : Hs F M H) (hm : M[j]? = some (p, o)) : Hs (upd F p o) (M.eraseIdx j) H := by
  have h2 := h.drop j
  refine ⟨fun b u e => ?_, h2.ow, fun i q u e => ?_, h2.nd⟩
  · by_cases hb : b = p
    · subst hb; rw [upd_same] at e; cases e; exact h.ow _ _ _ hm
    · rw [upd_ne hb] at e; exact h.fz _ _ e
  · obtain ⟨i', hi, e, _⟩ := get_erase e
    have hq : q ≠ p := fun z => by subst z; exact hi (h.nd i' j q u o e hm)
    rw [upd_ne hq]; exact h.fr _ _ _ e
theorem Hs.same_freeze (h : Hs F M H) (hm : M[j]? = some (p, o)) : Same F (upd F p o) := same_upd (h.fr _ _ _ hm)
end
section
variable {K : PySem.W.Frag} {F F' H H' : Hp} {M : Ow} {a : Addr} {xs : List V}
theorem same_l (e : Same H H') (h : SqL K H a xs) : SqL K H' a xs := e.seq h
theorem same_t (e : Same H H') (h : SqT K H a xs) : SqT K H' a xs := by
  rcases h with (h | ⟨o, h⟩) | h
  · exact .inl (.inl (e _ _ h))
  · exact .inl (.inr ⟨o, e _ _ h⟩)
  · exact .inr h
theorem sz {n : Nat} (h : n ≤ 16777216) : n ≤ sizeLine := by rw [sizeLine_eq]; exact h
theorem szl {n : Nat} (h : n < 16777216) : n < sizeLine := by rw [sizeLine_eq]; exact h
end

/-! ### attributes: the names in order, the values in order -/
theorem fld_get : ∀ {ns : List Str} {vs : List V} {i : Nat} {f : Str} {v : V}, ns.Nodup → ns[i]? = some f → vs[i]? = some v → (ns.zip vs).lookup f = some v
  | [], _, _, _, _, _, h, _ => by simp at h
  | _ :: _, [], _, _, _, _, _, h => by simp at h
  | n :: ns, v :: vs, 0, f, w, _, h, h2 => by
    simp at h h2; subst h h2
    simp [List.zip_cons_cons, List.lookup]
  | n :: ns, v :: vs, i + 1, f, w, hd, h, h2 => by
    have hd' := List.nodup_cons.mp hd
    have hm : f ∈ ns := List.mem_of_getElem? (by simpa using h)
    have hne : (f == n) = false := beq_eq_false_iff_ne.mpr fun z => hd'.1 (z ▸ hm)
    rw [List.zip_cons_cons, List.lookup, hne]
    exact fld_get hd'.2 (by simpa using h) (by simpa using h2)
theorem fld_put : ∀ {ns : List Str} {vs : List V} {i : Nat} {f : Str} {v : V}, ns.Nodup → ns[i]? = some f → i < vs.length → putF f v (ns.zip vs) = ns.zip (vs.set i v)
  | [], _, _, _, _, _, h, _ => by simp at h
  | _ :: _, [], _, _, _, _, _, h => by simp at h
  | n :: ns, w :: vs, 0, f, v, _, h, _ => by
    simp at h; subst h
    show (if n = n then _ else _) = _
    rw [if_pos rfl]; rfl
  | n :: ns, w :: vs, i + 1, f, v, hd, h, h2 => by
    have hd' := List.nodup_cons.mp hd
    have hm : f ∈ ns := List.mem_of_getElem? (by simpa using h)
    have hne : ¬ n = f := fun z => hd'.1 (z ▸ hm)
    show (if n = f then _ else (n, w) :: putF f v (ns.zip vs)) = (n, w) :: ns.zip (vs.set i v)
    rw [if_neg hne, fld_put hd'.2 (by simpa using h) (by simpa using h2)]
theorem fld_new : ∀ {ns : List Str} {vs : List V} {f : Str} {v : V}, ns.Nodup → ns[vs.length]? = some f → putF f v (ns.zip vs) = ns.zip (vs ++ [v])
  | [], _, _, _, _, h => by simp at h
  | n :: ns, [], f, v, _, h => by
    simp at h; subst h; simp [putF]
  | n :: ns, w :: vs, f, v, hd, h => by
    have hd' := List.nodup_cons.mp hd
    have h' : ns[vs.length]? = some f := by simpa using h
    have hm : f ∈ ns := List.mem_of_getElem? h'
    have hne : ¬ n = f := fun z => hd'.1 (z ▸ hm)
    show (if n = f then _ else (n, w) :: putF f v (ns.zip vs)) = (n, w) :: ns.zip (vs ++ [v])
    rw [if_neg hne, fld_new hd'.2 h']
theorem fld_none : ∀ {ns : List Str} {vs : List V} {f : Str}, f ∉ ns → (ns.zip vs).lookup f = none
  | [], _, _, _ => by simp
  | _ :: _, [], _, _ => by simp
  | n :: ns, w :: vs, f, h => by
    have hne : (f == n) = false := beq_eq_false_iff_ne.mpr fun z => h (by rw [z]; exact List.mem_cons_self)
    rw [List.zip_cons_cons, List.lookup, hne]
    exact fld_none fun z => h (List.mem_cons_of_mem _ z)
theorem zip_len {ns : List Str} {vs : List V} (h : ns.length < 1000) : (ns.zip vs).length < 1000 := by
  rw [List.length_zip]; omega
/-- an instance: class, own dict, the names, the values -/
abbrev Ob (C dx : Addr) (ns : List Str) (vs : List V) : HO := .ins C dx (ns.zip vs)
/-- a class whose instances have these attributes -/
class ClsF (K : PySem.W.Frag) (C : Addr) (ns : outParam (List Str)) : Prop where
  cl : Cls K C
  nd : ns.Nodup
  no : ∀ f ∈ ns, NoAttr K C f
  ln : ns.length < 1000

/-! ### what is found by itself: by classes -/
/-- the slot i holds v; the slots behind a store -/
class Lk (σ : L2.St) (i : Nat) (v : outParam V) : Prop where
  h : σ[i]? = some (some v)
instance {v : V} {σ : L2.St} : Lk (some v :: σ) 0 v := ⟨rfl⟩
instance {x : Option V} {σ : L2.St} {i : Nat} {v : V} [l : Lk σ i v] : Lk (x :: σ) (i + 1) v := ⟨by rw [List.getElem?_cons_succ]; exact l.h⟩
class Ss (σ : L2.St) (i : Nat) (x : Option V) (σ' : outParam L2.St) : Prop where
  h : σ.set i x = σ'
instance {x y : Option V} {σ : L2.St} : Ss (y :: σ) 0 x (x :: σ) := ⟨rfl⟩
instance {x y : Option V} {σ σ' : L2.St} {i : Nat} [l : Ss σ i x σ'] : Ss (y :: σ) (i + 1) x (y :: σ') := ⟨by rw [List.set_cons_succ, l.h]⟩
class Nt {α : Type} (xs : List α) (i : Nat) (v : outParam α) : Prop where
  h : xs[i]? = some v
instance {α : Type} {v : α} {xs : List α} : Nt (v :: xs) 0 v := ⟨rfl⟩
instance {α : Type} {x v : α} {xs : List α} {i : Nat} [l : Nt xs i v] : Nt (x :: xs) (i + 1) v := ⟨by rw [List.getElem?_cons_succ]; exact l.h⟩
class Sl {α : Type} (xs : List α) (i : Nat) (x : α) (ys : outParam (List α)) : Prop where
  lt : i < xs.length
  h : xs.set i x = ys
instance {α : Type} {x y : α} {xs : List α} : Sl (y :: xs) 0 x (x :: xs) := ⟨by simp, rfl⟩
instance {α : Type} {x y : α} {xs ys : List α} {i : Nat} [l : Sl xs i x ys] : Sl (y :: xs) (i + 1) x (y :: ys) := ⟨by have := l.lt; simp; omega, by rw [List.set_cons_succ, l.h]⟩
/-- an item by a Python index -/
class At (xs : List V) (i : Int) (v : outParam V) : Prop where
  h : atI xs i = some v
theorem atN {xs : List V} {n : Nat} {v : V} (h : xs[n]? = some v) : At xs (n : Int) v := ⟨atI_nat h⟩
instance {xs : List V} {v : V} [l : Nt xs 0 v] : At xs 0 v := atN (n := 0) l.h
instance {xs : List V} {v : V} [l : Nt xs 1 v] : At xs 1 v := atN (n := 1) l.h
instance {xs : List V} {v : V} [l : Nt xs 2 v] : At xs 2 v := atN (n := 2) l.h
instance {xs : List V} {v : V} [l : Nt xs 3 v] : At xs 3 v := atN (n := 3) l.h
instance {xs : List V} {v : V} [l : Nt xs 4 v] : At xs 4 v := atN (n := 4) l.h
instance {xs : List V} {v : V} [l : Nt xs 5 v] : At xs 5 v := atN (n := 5) l.h
instance {xs : List V} {v : V} : At (xs ++ [v]) (-1) v := ⟨atI_last xs v⟩
/-- among what is owned: the object at p; what is owned behind a change -/
class Im (M : Ow) (p : Addr) (o : outParam HO) : Prop where
  h : ∃ j : Nat, M[j]? = some (p, o)
instance im0 {p : Addr} {o : HO} {M : Ow} : Im ((p, o) :: M) p o := ⟨0, rfl⟩
instance im1 {p : Addr} {o : HO} {x : Addr × HO} {M : Ow} [l : Im M p o] : Im (x :: M) p o := let ⟨j, h⟩ := l.h; ⟨j + 1, by rw [List.getElem?_cons_succ]; exact h⟩
class Sw (M : Ow) (p : Addr) (o' : HO) (M' : outParam Ow) : Prop where
  h : ∃ (j : Nat) (o : HO), M[j]? = some (p, o) ∧ M' = M.set j (p, o')
instance sw0 {p : Addr} {o o' : HO} {M : Ow} : Sw ((p, o) :: M) p o' ((p, o') :: M) := ⟨0, o, rfl, rfl⟩
instance sw1 {p : Addr} {o' : HO} {x : Addr × HO} {M M' : Ow} [l : Sw M p o' M'] : Sw (x :: M) p o' (x :: M') := let ⟨j, o, h, e⟩ := l.h; ⟨j + 1, o, by rw [List.getElem?_cons_succ]; exact h, by rw [List.set_cons_succ, e]⟩
/-- .. without the object at p -/
class Dr (M : Ow) (p : Addr) (o : outParam HO) (M' : outParam Ow) : Prop where
  h : ∃ j : Nat, M[j]? = some (p, o) ∧ M' = M.eraseIdx j
instance dr0 {p : Addr} {o : HO} {M : Ow} : Dr ((p, o) :: M) p o M := ⟨0, rfl, rfl⟩
instance dr1 {p : Addr} {o : HO} {x : Addr × HO} {M M' : Ow} [l : Dr M p o M'] : Dr (x :: M) p o (x :: M') := let ⟨j, h, e⟩ := l.h; ⟨j + 1, by rw [List.getElem?_cons_succ]; exact h, by rw [List.eraseIdx_cons_succ, e]⟩
theorem Hs.im {F H : Hp} {M : Ow} {p : Addr} {o : HO} (hs : Hs F M H) (l : Im M p o) : H p = some o := let ⟨_, h⟩ := l.h; hs.at h
theorem Hs.sw {F H : Hp} {M M' : Ow} {p : Addr} {o' : HO} (hs : Hs F M H) (l : Sw M p o' M') : Hs F M' (upd H p o') := by
  obtain ⟨j, o, h, rfl⟩ := l.h
  exact hs.set h
theorem Hs.dr {F H : Hp} {M M' : Ow} {p : Addr} {o : HO} (hs : Hs F M H) (l : Dr M p o M') : Hs (upd F p o) M' H ∧ Same F (upd F p o) := by
  obtain ⟨j, h, rfl⟩ := l.h
  exact ⟨hs.freeze h, hs.same_freeze h⟩
/-- the place of the object at p: what is owned when it holds this or that -/
class Cell (M : Ow) (p : Addr) (m : outParam (HO → Ow)) : Prop where
  h : ∃ (j : Nat) (o : HO), M[j]? = some (p, o) ∧ ∀ o', m o' = M.set j (p, o')
instance cell0 {p : Addr} {o : HO} {M : Ow} : Cell ((p, o) :: M) p (fun o' => (p, o') :: M) := ⟨0, o, rfl, fun _ => rfl⟩
instance cell1 {p : Addr} {x : Addr × HO} {M : Ow} {m : HO → Ow} [l : Cell M p m] : Cell (x :: M) p (fun o' => x :: m o') :=
  let ⟨j, o, h, e⟩ := l.h; ⟨j + 1, o, by rw [List.getElem?_cons_succ]; exact h, fun o' => by rw [List.set_cons_succ, e]⟩
theorem cell_sw {M : Ow} {p : Addr} {m : HO → Ow} (c : Cell M p m) (o' : HO) : Sw M p o' (m o') := let ⟨j, o, h, e⟩ := c.h; ⟨j, o, h, e o'⟩
theorem cell_im {M : Ow} {p : Addr} {m : HO → Ow} (c : Cell M p m) (o' : HO) : Im (m o') p o' := by
  obtain ⟨j, o, h, e⟩ := c.h
  rw [e o']
  exact ⟨j, List.getElem?_set_self (List.getElem?_eq_some_iff.mp h).1⟩
theorem cell_sw2 {M : Ow} {p : Addr} {m : HO → Ow} (c : Cell M p m) (o o' : HO) : Sw (m o) p o' (m o') := by
  obtain ⟨j, u, h, e⟩ := c.h
  rw [e o, e o']
  exact ⟨j, o, List.getElem?_set_self (List.getElem?_eq_some_iff.mp h).1, by rw [List.set_set]⟩
theorem cell_cell {M : Ow} {p : Addr} {m : HO → Ow} (c : Cell M p m) (o : HO) : Cell (m o) p m := by
  obtain ⟨j, u, h, e⟩ := c.h
  refine ⟨j, o, ?_, fun o' => ?_⟩
  · rw [e o]; exact List.getElem?_set_self (List.getElem?_eq_some_iff.mp h).1
  · rw [e o, e o', List.set_set]
/-- F' goes on from F -/
class Sm (F : outParam Hp) (F' : Hp) : Prop where
  h : Same F F'
/-- frozen: a tuple, a list, an object -/
class FzT (K : PySem.W.Frag) (F : Hp) (a : Addr) (xs : outParam (List V)) : Prop where
  h : SqT K F a xs
class FzL (K : PySem.W.Frag) (F : Hp) (a : Addr) (xs : outParam (List V)) : Prop where
  h : SqL K F a xs
class Fz (F : Hp) (a : Addr) (o : outParam HO) : Prop where
  h : F a = some o
section
variable {K : PySem.W.Frag} {F F' : Hp} {a : Addr} {xs : List V} {o : HO}
instance (priority := 900) [e : Sm F F'] [l : FzT K F a xs] : FzT K F' a xs := ⟨same_t e.h l.h⟩
instance (priority := 900) [e : Sm F F'] [l : FzL K F a xs] : FzL K F' a xs := ⟨same_l e.h l.h⟩
instance (priority := 900) [e : Sm F F'] [l : Fz F a o] : Fz F' a o := ⟨e.h _ _ l.h⟩
theorem FzT.of (h : F a = some (.tup xs)) : FzT K F a xs := ⟨.inl (.inl h)⟩
theorem FzL.of (h : F a = some (.lst xs)) : FzL K F a xs := ⟨.inl (.inl h)⟩
end
/-- the place of an attribute among the names; no attribute -/
class Fx (ns : List Str) (f : Str) (i : outParam Nat) : Prop where
  h : ns[i]? = some f
class Nf (ns : List Str) (f : Str) : Prop where
  h : f ∉ ns
/-! ### one step; steps -/
class St1 (P : Prop) (P' : outParam Prop) : Prop where
  imp : P' → P
class Rn (P : Prop) (P' : outParam Prop) : Prop where
  imp : P' → P
instance (priority := 10) {P : Prop} : Rn P P := ⟨id⟩
instance {P P' P'' : Prop} [a : St1 P P'] [b : Rn P' P''] : Rn P P'' := ⟨fun h => a.imp (b.imp h)⟩
theorem go {P P' P'' : Prop} [a : St1 P P'] [b : Rn P' P''] (h : P'') : P := a.imp (b.imp h)
/-! ### rules by names -/
def rAddI : R2 := rI0 fun i j => .int (i + j)
def rSubI : R2 := rI0 fun i j => .int (i - j)
def rMulI : R2 := rI CMul fun i j => .int (i * j)
def rDivI : R2 := rI CDivW fun i j => .int (i / j)
def rModI : R2 := rI (fun _ j => 0 < j) fun i j => .int (i % j)
def rPowI : R2 := rI CPow fun i j => .int (i ^ j.toNat)
def rLtI : R2 := rI0 fun i j => .bl (decide (i < j))
def rLeI : R2 := rI0 fun i j => .bl (decide (i ≤ j))
def rGtI : R2 := rI0 fun i j => .bl (decide (j < i))
def rGeI : R2 := rI0 fun i j => .bl (decide (j ≤ i))
def rNegI : V → Hp → VK → Prop := rU fun i => .int (-i)
def rIsNone : R2 := fun x y H Q => y = .non ∧ Q (.bl (decide (x = .non))) H
def rNotNone : R2 := fun x y H Q => y = .non ∧ Q (.bl (!decide (x = .non))) H
def rInt1 : List V → Hp → VK → Prop := fun xs H Q => (∃ i, xs = [.int i] ∧ Q (.int i) H) ∨ ∃ k, xs = [.bl k] ∧ Q (.int (if k then 1 else 0)) H
def rMax2 : List V → Hp → VK → Prop := fun xs H Q => ∃ i j, xs = [.int i, .int j] ∧ Q (.int (if j > i then j else i)) H
def rMin2 : List V → Hp → VK → Prop := fun xs H Q => ∃ i j, xs = [.int i, .int j] ∧ Q (.int (if j < i then j else i)) H
def rListOf (K : PySem.W.Frag) : List V → Hp → VK → Prop := fun xs H Q => ∃ p ys, xs = [.ref p] ∧ (SqL K H p ys ∨ SqT K H p ys) ∧ ∀ l, H l = none → Q (.ref l) (upd H l (.lst ys))
def rTupleOf (K : PySem.W.Frag) : List V → Hp → VK → Prop := fun xs H Q => ∃ p ys, xs = [.ref p] ∧ ((SqL K H p ys ∧ ∀ l, H l = none → Q (.ref l) (upd H l (.tup ys))) ∨ (SqT K H p ys ∧ Q (.ref p) H))
def tTru (K : PySem.W.Frag) (ta : TE) : TT := fun σ H Q => ta σ H fun x H' => ∃ k, TruV K x H' k ∧ Q k H'
def rLn (K : PySem.W.Frag) : List V → Hp → VK → Prop := fun xs H Q => ∃ x n, xs = [x] ∧ LenV K x H n ∧ Q (.int n) H
/-- ends by their parts -/
abbrev En (N : L2.St → Hp → Prop) (R : VK) (B C : L2.St → Hp → Prop) : Ends := Ends.mk N R B C
section
variable {K : PySem.W.Frag} {σ σ' : L2.St} {H : Hp} {F : Hp} {M M' : Ow} {Q : VK} {QB : Bool → Hp → Prop} {QA : List V → Hp → Prop} {ta tb te tv : TE} {tt tu : TT} {tr : TA} {t u t1 t2 : TS} {x y v : V} {i j : Int} {n k : Nat} {r : R2}
  {N B C : L2.St → Hp → Prop} {R : VK} {g : TG} {gs : TGs} {p : Addr} {xs ys : List V} {o : HO} {a b : Str} {c d : Bool} {q : Bool → Prop}
-- expressions
instance [l : Lk σ n v] : St1 (tVar n σ H Q) (Q v H) := ⟨fun h => ⟨v, l.h, h⟩⟩
instance : St1 (tC v σ H Q) (Q v H) := ⟨id⟩
instance : St1 (tOp r ta tb σ H Q) (ta σ H fun x H1 => tb σ H1 fun y H2 => r x y H2 Q) := ⟨id⟩
instance {r : V → Hp → VK → Prop} : St1 (tUn r ta σ H Q) (ta σ H fun x H1 => r x H1 Q) := ⟨id⟩
def nBl (x : V) (q : Bool → Prop) : Prop := ∃ k, x = .bl k ∧ q k
instance : St1 (nBl (.bl c) q) (q c) := ⟨fun h => ⟨c, rfl, h⟩⟩
instance : St1 (tTest te σ H QB) (te σ H fun x H' => nBl x fun k => QB k H') := ⟨id⟩
instance : St1 (tB te σ H QB) (te σ H fun x H' => nBl x fun k => QB k H') := ⟨id⟩
instance : St1 (tAnd tt tu σ H QB) (tt σ H fun c H1 => if c = true then tu σ H1 QB else QB false H1) := ⟨id⟩
instance : St1 (tOr tt tu σ H QB) (tt σ H fun c H1 => if c = true then QB true H1 else tu σ H1 QB) := ⟨id⟩
instance : St1 (tNot tt σ H QB) (tt σ H fun c H1 => QB (!c) H1) := ⟨id⟩
instance : St1 (tAndV ta tb σ H Q) (ta σ H fun x H1 => nBl x fun c => if c = true then tb σ H1 Q else Q (.bl false) H1) := ⟨id⟩
instance : St1 (tOrV ta tb σ H Q) (ta σ H fun x H1 => nBl x fun c => if c = true then Q (.bl true) H1 else tb σ H1 Q) := ⟨id⟩
instance : St1 (tNotV ta σ H Q) (ta σ H fun x H1 => nBl x fun c => Q (.bl (!c)) H1) := ⟨id⟩
instance : St1 (tIf tt ta tb σ H Q) (tt σ H fun c H1 => if c = true then ta σ H1 Q else tb σ H1 Q) := ⟨id⟩
instance {A B : Prop} : St1 (if true = true then A else B) A := ⟨fun h => by rw [if_pos rfl]; exact h⟩
instance {A B : Prop} : St1 (if false = true then A else B) B := ⟨fun h => by rw [if_neg Bool.false_ne_true]; exact h⟩
instance {A B : Prop} : St1 (if (!true) = true then A else B) B := ⟨fun h => by rw [if_neg (by decide)]; exact h⟩
instance {A B : Prop} : St1 (if (!false) = true then A else B) A := ⟨fun h => by rw [if_pos (by decide)]; exact h⟩
instance : St1 (nBl (.bl (!true)) q) (q false) := ⟨fun h => ⟨_, rfl, h⟩⟩
instance : St1 (nBl (.bl (!false)) q) (q true) := ⟨fun h => ⟨_, rfl, h⟩⟩
instance : St1 (tYes σ H QB) (QB true H) := ⟨id⟩
instance : St1 (tNil σ H QA) (QA [] H) := ⟨id⟩
instance : St1 (tCons ta tr σ H QA) (ta σ H fun x H1 => tr σ H1 fun xs H2 => QA (x :: xs) H2) := ⟨id⟩
def nTup (xs : List V) (H : Hp) (Q : VK) : Prop := xs.length ≤ sizeLine ∧ ∀ p, H p = none → Q (.ref p) (upd H p (.tup xs))
def nLst (xs : List V) (H : Hp) (Q : VK) : Prop := xs.length ≤ sizeLine ∧ ∀ p, H p = none → Q (.ref p) (upd H p (.lst xs))
instance : St1 (tTup tr σ H Q) (tr σ H fun xs H1 => nTup xs H1 Q) := ⟨id⟩
instance : St1 (tLst tr σ H Q) (tr σ H fun xs H1 => nLst xs H1 Q) := ⟨id⟩
instance {sp : Sp} {dvs : List V} {E : XK} : St1 (tCall sp dvs E tr σ H Q) (tr σ H fun vs H1 => sp (vs ++ dvs) H1 Q E) := ⟨id⟩
instance {r : List V → Hp → VK → Prop} : St1 (tCB r tr σ H Q) (tr σ H fun vs H1 => r vs H1 Q) := ⟨id⟩
-- numbers, texts, truth
instance : St1 (rAddI (.int i) (.int j) H Q) (Q (.int (i + j)) H) := ⟨fun h => ⟨i, j, rfl, rfl, h⟩⟩
instance : St1 (rSubI (.int i) (.int j) H Q) (Q (.int (i - j)) H) := ⟨fun h => ⟨i, j, rfl, rfl, h⟩⟩
instance : St1 (rLtI (.int i) (.int j) H Q) (Q (.bl (decide (i < j))) H) := ⟨fun h => ⟨i, j, rfl, rfl, h⟩⟩
instance : St1 (rLeI (.int i) (.int j) H Q) (Q (.bl (decide (i ≤ j))) H) := ⟨fun h => ⟨i, j, rfl, rfl, h⟩⟩
instance : St1 (rGtI (.int i) (.int j) H Q) (Q (.bl (decide (j < i))) H) := ⟨fun h => ⟨i, j, rfl, rfl, h⟩⟩
instance : St1 (rGeI (.int i) (.int j) H Q) (Q (.bl (decide (j ≤ i))) H) := ⟨fun h => ⟨i, j, rfl, rfl, h⟩⟩
instance : St1 (rNegI (.int i) H Q) (Q (.int (-i)) H) := ⟨fun h => ⟨i, rfl, h⟩⟩
theorem dI : decide (V.int i = V.int j) = decide (i = j) := decide_eq_decide.mpr ⟨V.int.inj, fun e => by rw [e]⟩
theorem dS : decide (V.str a = V.str b) = decide (a = b) := decide_eq_decide.mpr ⟨V.str.inj, fun e => by rw [e]⟩
theorem dB : decide (V.bl c = V.bl d) = decide (c = d) := decide_eq_decide.mpr ⟨V.bl.inj, fun e => by rw [e]⟩
instance : St1 (rEq (.int i) (.int j) H Q) (Q (.bl (decide (i = j))) H) := ⟨fun h => ⟨rfl, by rw [dI]; exact h⟩⟩
instance : St1 (rNe (.int i) (.int j) H Q) (Q (.bl (!decide (i = j))) H) := ⟨fun h => ⟨rfl, by rw [dI]; exact h⟩⟩
instance : St1 (rEq (.str a) (.str b) H Q) (Q (.bl (decide (a = b))) H) := ⟨fun h => ⟨rfl, by rw [dS]; exact h⟩⟩
instance : St1 (rNe (.str a) (.str b) H Q) (Q (.bl (!decide (a = b))) H) := ⟨fun h => ⟨rfl, by rw [dS]; exact h⟩⟩
instance : St1 (rEq (.bl c) (.bl d) H Q) (Q (.bl (decide (c = d))) H) := ⟨fun h => ⟨rfl, by rw [dB]; exact h⟩⟩
instance : St1 (rNe (.bl c) (.bl d) H Q) (Q (.bl (!decide (c = d))) H) := ⟨fun h => ⟨rfl, by rw [dB]; exact h⟩⟩
instance : St1 (rIsNone .non .non H Q) (Q (.bl true) H) := ⟨fun h => ⟨rfl, h⟩⟩
instance : St1 (rIsNone (.ref p) .non H Q) (Q (.bl false) H) := ⟨fun h => ⟨rfl, h⟩⟩
instance : St1 (rIsNone (.int i) .non H Q) (Q (.bl false) H) := ⟨fun h => ⟨rfl, h⟩⟩
instance : St1 (rIsNone (.str a) .non H Q) (Q (.bl false) H) := ⟨fun h => ⟨rfl, h⟩⟩
instance : St1 (rIsNone (.bl c) .non H Q) (Q (.bl false) H) := ⟨fun h => ⟨rfl, h⟩⟩
instance : St1 (rNotNone .non .non H Q) (Q (.bl false) H) := ⟨fun h => ⟨rfl, h⟩⟩
instance : St1 (rNotNone (.ref p) .non H Q) (Q (.bl true) H) := ⟨fun h => ⟨rfl, h⟩⟩
instance : St1 (rNotNone (.int i) .non H Q) (Q (.bl true) H) := ⟨fun h => ⟨rfl, h⟩⟩
instance : St1 (rNotNone (.str a) .non H Q) (Q (.bl true) H) := ⟨fun h => ⟨rfl, h⟩⟩
instance : St1 (rNotNone (.bl c) .non H Q) (Q (.bl true) H) := ⟨fun h => ⟨rfl, h⟩⟩
instance : St1 (rInt1 [.int i] H Q) (Q (.int i) H) := ⟨fun h => .inl ⟨i, rfl, h⟩⟩
instance : St1 (rInt1 [.bl c] H Q) (Q (.int (if c then 1 else 0)) H) := ⟨fun h => .inr ⟨c, rfl, h⟩⟩
-- by words of one's own: bounds
theorem py_mulL (h1 : -18446744073709551616 < i) (h2 : i < 18446744073709551616) (h : Q (.int (i * j)) H) : rMulI (.int i) (.int j) H Q := ⟨i, j, rfl, rfl, .inl ⟨h1, h2⟩, h⟩
theorem py_mulR (h1 : -18446744073709551616 < j) (h2 : j < 18446744073709551616) (h : Q (.int (i * j)) H) : rMulI (.int i) (.int j) H Q := ⟨i, j, rfl, rfl, .inr ⟨h1, h2⟩, h⟩
theorem divW {i j : Int} (h1 : 0 < j) (h2 : j < 18446744073709551616) : CDivW i j := wide_div (b := 64) h1 (by omega) (by decide) (by decide)
theorem py_divI (h1 : 0 < j) (h2 : j < 18446744073709551616) (h : Q (.int (i / j)) H) : rDivI (.int i) (.int j) H Q := ⟨i, j, rfl, rfl, divW h1 h2, h⟩
theorem py_modI (h1 : 0 < j) (h : Q (.int (i % j)) H) : rModI (.int i) (.int j) H Q := ⟨i, j, rfl, rfl, h1, h⟩
theorem py_powI {b : Int} (h1 : 0 ≤ j ∧ j ≤ 1000000 ∧ i.natAbs < 2 ^ 64) (e : i ^ j.toNat = b) (h : Q (.int b) H) : rPowI (.int i) (.int j) H Q := ⟨i, j, rfl, rfl, h1, by show Q (.int (i ^ j.toNat)) H; rw [e]; exact h⟩
instance : St1 (rPowI (.int 10) (.int 18) H Q) (Q (.int 1000000000000000000) H) := ⟨py_powI (by decide) (by decide +kernel)⟩
instance : St1 (rPowI (.int 10) (.int 9) H Q) (Q (.int 1000000000) H) := ⟨py_powI (by decide) (by decide +kernel)⟩
instance : St1 (rPowI (.int 10) (.int 12) H Q) (Q (.int 1000000000000) H) := ⟨py_powI (by decide) (by decide +kernel)⟩
instance : St1 (rPowI (.int 10) (.int 5) H Q) (Q (.int 100000) H) := ⟨py_powI (by decide) (by decide +kernel)⟩
instance : St1 (rPowI (.int 10) (.int 6) H Q) (Q (.int 1000000) H) := ⟨py_powI (by decide) (by decide +kernel)⟩
instance : St1 (rPowI (.int 10) (.int 10) H Q) (Q (.int 10000000000) H) := ⟨py_powI (by decide) (by decide +kernel)⟩
theorem py_max2 {m : Int} (e : (if j > i then j else i) = m) (h : Q (.int m) H) : rMax2 [.int i, .int j] H Q := ⟨i, j, rfl, by rw [e]; exact h⟩
theorem py_min2 {m : Int} (e : (if j < i then j else i) = m) (h : Q (.int m) H) : rMin2 [.int i, .int j] H Q := ⟨i, j, rfl, by rw [e]; exact h⟩
-- new tuples, new lists
theorem nTupF [hs : Hs F M H] (hl : xs.length ≤ 16777216) (h : ∀ p F' H', F p = none → Sm F F' → Hs F' M H' → (∀ K, FzT K F' p xs) → Fz F' p (.tup xs) → Q (.ref p) H') : nTup xs H Q :=
  ⟨sz hl, fun p hp => h p _ _ (hs.free hp) ⟨same_upd (hs.free hp)⟩ (hs.newF hp) (fun _ => .of upd_same) ⟨upd_same⟩⟩
theorem nLstO [hs : Hs F M H] (hl : xs.length ≤ 16777216) (h : ∀ p H', F p = none → Hs F ((p, .lst xs) :: M) H' → Q (.ref p) H') : nLst xs H Q :=
  ⟨sz hl, fun p hp => h p _ (hs.free hp) (hs.new hp)⟩
theorem nLstF [hs : Hs F M H] (hl : xs.length ≤ 16777216) (h : ∀ p F' H', F p = none → Sm F F' → Hs F' M H' → (∀ K, FzL K F' p xs) → Fz F' p (.lst xs) → Q (.ref p) H') : nLst xs H Q :=
  ⟨sz hl, fun p hp => h p _ _ (hs.free hp) ⟨same_upd (hs.free hp)⟩ (hs.newF hp) (fun _ => .of upd_same) ⟨upd_same⟩⟩
-- attributes
def nFld (K : PySem.W.Frag) (f : Str) (x : V) (H : Hp) (Q : VK) : Prop := ∃ a C dx fs v, x = .ref a ∧ H a = some (.ins C dx fs) ∧ Cls K C ∧ NoAttr K C f ∧ fs.lookup f = some v ∧ Q v H
instance {f : Str} : St1 (tFld K ta f σ H Q) (ta σ H fun x H1 => nFld K f x H1 Q) := ⟨id⟩
instance {f : Str} {C dx : Addr} {ns : List Str} {vs : List V} [hs : Hs F M H] [hm : Im M p (Ob C dx ns vs)] [cc : ClsF K C ns] [hi : Fx ns f n] [hv : Nt vs n v] : St1 (nFld K f (.ref p) H Q) (Q v H) :=
  ⟨fun h => ⟨p, C, dx, _, v, rfl, hs.im hm, cc.cl, cc.no f (List.mem_of_getElem? hi.h), fld_get cc.nd hi.h hv.h, h⟩⟩
instance (priority := 900) {f : Str} {C dx : Addr} {ns : List Str} {vs : List V} [hs : Hs F M H] [hm : Fz F p (Ob C dx ns vs)] [cc : ClsF K C ns] [hi : Fx ns f n] [hv : Nt vs n v] : St1 (nFld K f (.ref p) H Q) (Q v H) :=
  ⟨fun h => ⟨p, C, dx, _, v, rfl, hs.f hm.h, cc.cl, cc.no f (List.mem_of_getElem? hi.h), fld_get cc.nd hi.h hv.h, h⟩⟩
def nSet (K : PySem.W.Frag) (f : Str) (y : V) (x : V) (H : Hp) (q : Hp → Prop) : Prop := ∃ a C dx fs, x = .ref a ∧ H a = some (.ins C dx fs) ∧ Cls K C ∧ NoAttr K C f ∧ fs.length < 1000 ∧ q (upd H a (.ins C dx (putF f y fs)))
instance {f : Str} : St1 (sFld K ta tv f (En N R B C) σ H) (tv σ H fun y H1 => ta σ H1 fun x H2 => nSet K f y x H2 (N σ)) := ⟨id⟩
theorem nSet_mk {f : Str} {C dx : Addr} {ns : List Str} {vs vs' : List V} {q : Hp → Prop} [hs : Hs F M H] [hm : Im M p (Ob C dx ns vs)] [cc : ClsF K C ns] [hi : Fx ns f n] [hv : Sl vs n y vs'] [hw : Sw M p (Ob C dx ns vs') M']
    (h : ∀ H', Hs F M' H' → q H') : nSet K f y (.ref p) H q :=
  ⟨p, C, dx, _, rfl, hs.im hm, cc.cl, cc.no f (List.mem_of_getElem? hi.h), zip_len cc.ln, by rw [fld_put cc.nd hi.h hv.lt, hv.h]; exact h _ (hs.sw hw)⟩
theorem nSet_new {f : Str} {C dx : Addr} {ns : List Str} {vs : List V} {q : Hp → Prop} [hs : Hs F M H] [hm : Im M p (Ob C dx ns vs)] [cc : ClsF K C ns] (hi : ns[vs.length]? = some f) [hw : Sw M p (Ob C dx ns (vs ++ [y])) M']
    (h : ∀ H', Hs F M' H' → q H') : nSet K f y (.ref p) H q :=
  ⟨p, C, dx, _, rfl, hs.im hm, cc.cl, cc.no f (List.mem_of_getElem? hi), zip_len cc.ln, by rw [fld_new cc.nd hi]; exact h _ (hs.sw hw)⟩
def nAugF (K : PySem.W.Frag) (f : Str) (x : V) (H : Hp) (tv : (V → Hp → Prop) → Prop) (rd : V → V → Hp → VK → Prop) (q : Hp → Prop) : Prop := ∃ a C dx fs v, x = .ref a ∧ H a = some (.ins C dx fs) ∧ Cls K C ∧ NoAttr K C f ∧ fs.lookup f = some v ∧
  tv fun y H2 => rd v y H2 fun z H3 => ∃ dx fs, H3 a = some (.ins C dx fs) ∧ fs.length < 1000 ∧ q (upd H3 a (.ins C dx (putF f z fs)))
-- a method's call
def nMeth (C : Addr) (m : Str) (x : V) (H : Hp) (q : Prop) : Prop := ∃ a dx fs, x = .ref a ∧ H a = some (.ins C dx fs) ∧ fs.lookup m = none ∧ q
instance {C : Addr} {m : Str} {sp : Sp} {dvs : List V} {E : XK} : St1 (tMeth C m sp dvs E ta tr σ H Q) (ta σ H fun x H1 => nMeth C m x H1 (tr σ H1 fun vs H2 => sp (x :: (vs ++ dvs)) H2 Q E)) := ⟨id⟩
instance {C dx : Addr} {m : Str} {ns : List Str} {vs : List V} {q : Prop} [hs : Hs F M H] [hm : Im M p (Ob C dx ns vs)] [hn : Nf ns m] : St1 (nMeth C m (.ref p) H q) q := ⟨fun h => ⟨p, dx, _, rfl, hs.im hm, fld_none hn.h, h⟩⟩
instance (priority := 900) {C dx : Addr} {m : Str} {ns : List Str} {vs : List V} {q : Prop} [hs : Hs F M H] [hm : Fz F p (Ob C dx ns vs)] [hn : Nf ns m] : St1 (nMeth C m (.ref p) H q) q := ⟨fun h => ⟨p, dx, _, rfl, hs.f hm.h, fld_none hn.h, h⟩⟩
-- items, lengths, truth
instance [hs : Hs F M H] [hm : Im M p (.lst xs)] [ha : At xs i v] : St1 (rIx K (.ref p) (.int i) H Q) (Q v H) := ⟨fun h => .inl ⟨p, xs, i, v, rfl, rfl, SqL.of (hs.im hm), ha.h, h⟩⟩
instance (priority := 900) [hs : Hs F M H] [hm : FzT K F p xs] [ha : At xs i v] : St1 (rIx K (.ref p) (.int i) H Q) (Q v H) := ⟨fun h => .inr (.inl ⟨p, xs, i, v, rfl, rfl, same_t hs.fz hm.h, ha.h, h⟩)⟩
instance (priority := 800) [hs : Hs F M H] [hm : FzL K F p xs] [ha : At xs i v] : St1 (rIx K (.ref p) (.int i) H Q) (Q v H) := ⟨fun h => .inl ⟨p, xs, i, v, rfl, rfl, same_l hs.fz hm.h, ha.h, h⟩⟩
instance {x : V} : St1 (rIx K x (.int (if true = true then i else j)) H Q) (rIx K x (.int i) H Q) := ⟨fun h => by rw [if_pos rfl]; exact h⟩
instance {x : V} : St1 (rIx K x (.int (if false = true then i else j)) H Q) (rIx K x (.int j) H Q) := ⟨fun h => by rw [if_neg Bool.false_ne_true]; exact h⟩
theorem nIxO [hs : Hs F M H] [hm : Im M p (.lst xs)] (ha : atI xs i = some v) (h : Q v H) : rIx K (.ref p) (.int i) H Q := .inl ⟨p, xs, i, v, rfl, rfl, SqL.of (hs.im hm), ha, h⟩
theorem nIxL [hs : Hs F M H] [hm : FzL K F p xs] (ha : atI xs i = some v) (h : Q v H) : rIx K (.ref p) (.int i) H Q := .inl ⟨p, xs, i, v, rfl, rfl, same_l hs.fz hm.h, ha, h⟩
theorem nIxT [hs : Hs F M H] [hm : FzT K F p xs] (ha : atI xs i = some v) (h : Q v H) : rIx K (.ref p) (.int i) H Q := .inr (.inl ⟨p, xs, i, v, rfl, rfl, same_t hs.fz hm.h, ha, h⟩)
theorem nIxS {z : Str} {c : Nat} (hl : z.length ≤ 16777216) (ha : atI z.cps.toList i = some c) (h : Q (.str ⟨#[c]⟩) H) : rIx K (.str z) (.int i) H Q := .inr (.inr ⟨z, i, c, rfl, rfl, sz hl, ha, h⟩)
instance [hs : Hs F M H] [hm : Im M p (.lst xs)] : St1 (rLn K [.ref p] H Q) (Q (.int (xs.length : Int)) H) := ⟨fun h => ⟨.ref p, _, rfl, .inl ⟨xs, SqL.of (hs.im hm), rfl⟩, h⟩⟩
instance (priority := 900) [hs : Hs F M H] [hm : FzT K F p xs] : St1 (rLn K [.ref p] H Q) (Q (.int (xs.length : Int)) H) := ⟨fun h => ⟨.ref p, _, rfl, .inr ⟨xs, same_t hs.fz hm.h, rfl⟩, h⟩⟩
instance (priority := 800) [hs : Hs F M H] [hm : FzL K F p xs] : St1 (rLn K [.ref p] H Q) (Q (.int (xs.length : Int)) H) := ⟨fun h => ⟨.ref p, _, rfl, .inl ⟨xs, same_l hs.fz hm.h, rfl⟩, h⟩⟩
theorem nLnS {z : Str} (hl : z.length ≤ 16777216) (h : Q (.int (z.length : Int)) H) : rLn K [.str z] H Q := ⟨.str z, _, rfl, ⟨sz hl, rfl⟩, h⟩
def nTru (K : PySem.W.Frag) (x : V) (H : Hp) (q : Bool → Prop) : Prop := ∃ k, TruV K x H k ∧ q k
instance : St1 (tTru K ta σ H QB) (ta σ H fun x H' => nTru K x H' fun k => QB k H') := ⟨id⟩
class Ie (xs : List V) (b : outParam Bool) : Prop where
  h : (!xs.isEmpty) = b
instance : Ie [] false := ⟨rfl⟩
instance {v : V} : Ie (v :: xs) true := ⟨rfl⟩
instance {v : V} : Ie (xs ++ [v]) true := ⟨by cases xs <;> rfl⟩
instance (priority := 10) : Ie xs (!xs.isEmpty) := ⟨rfl⟩
instance [hs : Hs F M H] [hm : Im M p (.lst xs)] [e : Ie xs c] : St1 (nTru K (.ref p) H q) (q c) := ⟨fun h => ⟨_, .inl ⟨xs, SqL.of (hs.im hm), rfl⟩, by rw [e.h]; exact h⟩⟩
instance (priority := 900) [hs : Hs F M H] [hm : FzT K F p xs] [e : Ie xs c] : St1 (nTru K (.ref p) H q) (q c) := ⟨fun h => ⟨_, .inr (.inl ⟨xs, same_t hs.fz hm.h, rfl⟩), by rw [e.h]; exact h⟩⟩
instance (priority := 800) [hs : Hs F M H] [hm : FzL K F p xs] [e : Ie xs c] : St1 (nTru K (.ref p) H q) (q c) := ⟨fun h => ⟨_, .inl ⟨xs, same_l hs.fz hm.h, rfl⟩, by rw [e.h]; exact h⟩⟩
instance : St1 (nTru K (.int i) H q) (q (i != 0)) := ⟨fun h => ⟨_, rfl, h⟩⟩
instance : St1 (nTru K (.bl c) H q) (q c) := ⟨fun h => ⟨_, rfl, h⟩⟩
instance : St1 (nTru K .non H q) (q false) := ⟨fun h => ⟨_, rfl, h⟩⟩
-- list(..), tuple(..)
theorem nTupleOfO [hs : Hs F M H] [hm : Im M p (.lst xs)] (h : ∀ q F' H', F q = none → Sm F F' → Hs F' M H' → FzT K F' q xs → Fz F' q (.tup xs) → Q (.ref q) H') : rTupleOf K [.ref p] H Q :=
  ⟨p, xs, rfl, .inl ⟨SqL.of (hs.im hm), fun q hq => h q _ _ (hs.free hq) ⟨same_upd (hs.free hq)⟩ (hs.newF hq) (.of upd_same) ⟨upd_same⟩⟩⟩
theorem nTupleOfL [hs : Hs F M H] [hm : FzL K F p xs] (h : ∀ q F' H', F q = none → Sm F F' → Hs F' M H' → FzT K F' q xs → Fz F' q (.tup xs) → Q (.ref q) H') : rTupleOf K [.ref p] H Q :=
  ⟨p, xs, rfl, .inl ⟨same_l hs.fz hm.h, fun q hq => h q _ _ (hs.free hq) ⟨same_upd (hs.free hq)⟩ (hs.newF hq) (.of upd_same) ⟨upd_same⟩⟩⟩
theorem nTupleOfT [hs : Hs F M H] [hm : FzT K F p xs] (h : Q (.ref p) H) : rTupleOf K [.ref p] H Q := ⟨p, xs, rfl, .inr ⟨same_t hs.fz hm.h, h⟩⟩
theorem nListOfO [hs : Hs F M H] [hm : Im M p (.lst xs)] (h : ∀ q H', F q = none → Hs F ((q, .lst xs) :: M) H' → Q (.ref q) H') : rListOf K [.ref p] H Q := ⟨p, xs, rfl, .inl (SqL.of (hs.im hm)), fun q hq => h q _ (hs.free hq) (hs.new hq)⟩
theorem nListOfL [hs : Hs F M H] [hm : FzL K F p xs] (h : ∀ q H', F q = none → Hs F ((q, .lst xs) :: M) H' → Q (.ref q) H') : rListOf K [.ref p] H Q := ⟨p, xs, rfl, .inl (same_l hs.fz hm.h), fun q hq => h q _ (hs.free hq) (hs.new hq)⟩
theorem nListOfT [hs : Hs F M H] [hm : FzT K F p xs] (h : ∀ q H', F q = none → Hs F ((q, .lst xs) :: M) H' → Q (.ref q) H') : rListOf K [.ref p] H Q := ⟨p, xs, rfl, .inr (same_t hs.fz hm.h), fun q hq => h q _ (hs.free hq) (hs.new hq)⟩
-- list methods
def nTy (K : PySem.W.Frag) (T : String) (x : V) (H : Hp) (q : Prop) : Prop := tyV K T x H ∧ q
instance {T : String} {r : V → List V → Hp → VK → Prop} : St1 (tBM K T r ta tr σ H Q) (ta σ H fun x H1 => nTy K T x H1 (tr σ H1 fun xs H2 => r x xs H2 Q)) := ⟨id⟩
instance {T : String} {r : V → List V → Hp → VK → Prop} : St1 (tBM0 K T r ta σ H Q) (ta σ H fun x H1 => nTy K T x H1 (r x [] H1 Q)) := ⟨id⟩
instance {q : Prop} [hs : Hs F M H] [hm : Im M p (.lst xs)] : St1 (nTy K "list" (.ref p) H q) q := ⟨fun h => ⟨.inl ⟨rfl, _, SqL.of (hs.im hm)⟩, h⟩⟩
theorem nAppend [hs : Hs F M H] [hm : Im M p (.lst xs)] [hw : Sw M p (.lst (xs ++ [y])) M'] (hl : xs.length < 16777216) (h : ∀ H', Hs F M' H' → Q .non H') : rAppend (.ref p) [y] H Q :=
  ⟨p, xs, y, rfl, rfl, hs.im hm, szl hl, h _ (hs.sw hw)⟩
theorem nExtend {b : Addr} {zs : List V} [hs : Hs F M H] [hm : Im M p (.lst xs)] [hb : Im M b (.lst zs)] [hw : Sw M p (.lst (xs ++ zs)) M'] (hl : xs.length + zs.length ≤ 16777216) (h : ∀ H', Hs F M' H' → Q .non H') : rExtend (.ref p) [.ref b] H Q :=
  ⟨p, b, xs, zs, rfl, rfl, hs.im hm, hs.im hb, sz hl, h _ (hs.sw hw)⟩
theorem nExtendF {b : Addr} {zs : List V} [hs : Hs F M H] [hm : Im M p (.lst xs)] [hb : Fz F b (.lst zs)] [hw : Sw M p (.lst (xs ++ zs)) M'] (hl : xs.length + zs.length ≤ 16777216) (h : ∀ H', Hs F M' H' → Q .non H') : rExtend (.ref p) [.ref b] H Q :=
  ⟨p, b, xs, zs, rfl, rfl, hs.im hm, hs.f hb.h, sz hl, h _ (hs.sw hw)⟩
theorem nPop [hs : Hs F M H] [hm : Im M p (.lst (xs ++ [y]))] [hw : Sw M p (.lst xs) M'] (h : ∀ H', Hs F M' H' → Q y H') : rPop (.ref p) [] H Q :=
  ⟨p, _, y, rfl, rfl, hs.im hm, by simp, by rw [List.dropLast_concat]; exact h _ (hs.sw hw)⟩
theorem nReverse [hs : Hs F M H] [hm : Im M p (.lst xs)] [hw : Sw M p (.lst xs.reverse) M'] (h : ∀ H', Hs F M' H' → Q .non H') : rReverse (.ref p) [] H Q := ⟨p, _, rfl, rfl, hs.im hm, h _ (hs.sw hw)⟩
/-- xs[i] = y, i written -/
class Sa (xs : List V) (i : Int) (y : V) (ys : outParam (List V)) : Prop where
  h : ∃ j, ixN xs.length i = some j ∧ xs.set j y = ys
theorem saN {xs ys : List V} {n : Nat} {y : V} (l : Sl xs n y ys) : Sa xs (n : Int) y ys := ⟨n, by unfold ixN; rw [if_pos (by omega), if_pos (by have := l.lt; omega)]; simp, l.h⟩
instance [l : Sl xs 0 y ys] : Sa xs 0 y ys := saN l
instance [l : Sl xs 1 y ys] : Sa xs 1 y ys := saN l
instance [l : Sl xs 2 y ys] : Sa xs 2 y ys := saN l
instance [l : Sl xs 3 y ys] : Sa xs 3 y ys := saN l
instance {z : V} : Sa (xs ++ [z]) (-1) y (xs ++ [y]) := ⟨xs.length, by unfold ixN; rw [if_neg (by omega), if_pos (by simp; omega)]; simp; omega, by rw [List.set_append_right _ _ (Nat.le_refl _), Nat.sub_self]; rfl⟩
theorem nSetL {q : Hp → Prop} [hs : Hs F M H] [hm : Im M p (.lst xs)] [hj : Sa xs i y ys] [hw : Sw M p (.lst ys) M'] (h : ∀ H', Hs F M' H' → q H') : rSetL (.ref p) (.int i) y H q := by
  obtain ⟨j, h1, h2⟩ := hj.h
  exact ⟨p, xs, i, j, rfl, rfl, hs.im hm, h1, by rw [h2]; exact h _ (hs.sw hw)⟩
theorem nSetI {j : Nat} {q : Hp → Prop} [hs : Hs F M H] [hm : Im M p (.lst xs)] (hi : i = (j : Int)) (hj : j < xs.length) [hw : Sw M p (.lst (xs.set j y)) M'] (h : ∀ H', Hs F M' H' → q H') : rSetL (.ref p) (.int i) y H q :=
  ⟨p, xs, i, j, rfl, rfl, hs.im hm, by rw [hi]; unfold ixN; rw [if_pos (by omega), if_pos (by omega)]; simp, h _ (hs.sw hw)⟩
-- slices
instance {r : V → Option Int → Option Int → Hp → VK → Prop} {tl th : TO} : St1 (tSl r te tl th σ H Q) (te σ H fun x H1 => tl σ H1 fun l H2 => th σ H2 fun u H3 => r x l u H3 Q) := ⟨id⟩
instance {QO : Option Int → Hp → Prop} : St1 (tNoPart σ H QO) (QO none H) := ⟨id⟩
def nInt (x : V) (q : Int → Prop) : Prop := ∃ i, x = .int i ∧ q i
instance {q : Int → Prop} : St1 (nInt (.int i) q) (q i) := ⟨fun h => ⟨i, rfl, h⟩⟩
instance {QO : Option Int → Hp → Prop} : St1 (tPart te σ H QO) (te σ H fun x H1 => nInt x fun i => QO (some i) H1) := ⟨id⟩
-- statements
instance : St1 (tSeq t1 t2 (En N R B C) σ H) (t1 (En (t2 (En N R B C)) R B C) σ H) := ⟨id⟩
instance : St1 (tNext (En N R B C) σ H) (N σ H) := ⟨id⟩
instance : St1 (tBreak (En N R B C) σ H) (B σ H) := ⟨id⟩
instance : St1 (tCont (En N R B C) σ H) (C σ H) := ⟨id⟩
instance : St1 (tDrop te (En N R B C) σ H) (te σ H fun _ H1 => N σ H1) := ⟨id⟩
instance : St1 (tRet te (En N R B C) σ H) (te σ H R) := ⟨id⟩
instance : St1 (tRetN (En N R B C) σ H) (R .non H) := ⟨id⟩
instance : St1 (tIfS tt t1 t2 (En N R B C) σ H) (tt σ H fun b H1 => if b = true then t1 (En N R B C) σ H1 else t2 (En N R B C) σ H1) := ⟨id⟩
instance : St1 (tAsg te g (En N R B C) σ H) (te σ H fun x H1 => g x σ H1 N) := ⟨id⟩
instance [e : Ss σ n (some x) σ'] : St1 (gName n x σ H N) (N σ' H) := ⟨fun h => by show N (σ.set n (some x)) H; rw [e.h]; exact h⟩
instance {to ti : TE} {tset : TSet} : St1 (gSub to ti tset x σ H N) (to σ H fun o H1 => ti σ H1 fun i H2 => tset o i x H2 fun H3 => N σ H3) := ⟨id⟩
theorem gT [hs : Hs F M H] [hm : FzT K F p xs] (hl : xs.length = n) (h : gs xs σ H N) : gTup K n gs (.ref p) σ H N := ⟨p, xs, rfl, same_t hs.fz hm.h, hl, h⟩
class Ln {α : Type} (xs : List α) (n : Nat) : Prop where
  h : xs.length = n
instance {α : Type} : Ln ([] : List α) 0 := ⟨rfl⟩
instance {α : Type} {x : α} {xs : List α} {n : Nat} [l : Ln xs n] : Ln (x :: xs) (n + 1) := ⟨by rw [List.length_cons, l.h]⟩
instance [hs : Hs F M H] [hm : FzT K F p xs] [hl : Ln xs n] : St1 (gTup K n gs (.ref p) σ H N) (gs xs σ H N) := ⟨gT hl.h⟩
instance : St1 (gCons g gs (x :: xs) σ H N) (g x σ H fun σ' H' => gs xs σ' H' N) := ⟨fun h => ⟨x, xs, rfl, h⟩⟩
instance : St1 (gNil [] σ H N) (N σ H) := ⟨fun h => ⟨rfl, h⟩⟩
instance {f : Int → Int → Int} [l : Lk σ n (.int i)] : St1 (tAug n te (ipI f) (En N R B C) σ H) (te σ H fun y H1 => nInt y fun k => gName n (.int (f i k)) σ H1 N) :=
  ⟨fun h => ⟨.int i, l.h, by
    have e : (fun y H1 => nInt y fun k => gName n (V.int (f i k)) σ H1 N) = fun y H1 => ipI f (V.int i) y H1 fun z H2 => N (σ.set n (some z)) H2 := by
      funext y H1
      apply propext
      constructor
      · rintro ⟨k, rfl, h⟩; exact ⟨i, k, rfl, rfl, h⟩
      · rintro ⟨i', k, e1, rfl, h⟩; cases e1; exact ⟨k, rfl, h⟩
    rw [e] at h; exact h⟩⟩
def nPar (n k : Nat) (vs : List V) (σ : L2.St) (H : Hp) (N : L2.St → Hp → Prop) : Prop := ∃ v w, vs = [v, w] ∧ N ((σ.set n (some v)).set k (some w)) H
instance : St1 (tPar n k tr (En N R B C) σ H) (tr σ H fun vs H1 => nPar n k vs σ H1 N) := ⟨id⟩
instance {σ'' : L2.St} [e : Ss σ n (some x) σ'] [e2 : Ss σ' k (some y) σ''] : St1 (nPar n k [x, y] σ H N) (N σ'' H) := ⟨fun h => ⟨x, y, rfl, by rw [e.h, e2.h]; exact h⟩⟩
-- a cut: what follows is shown once, from Mid
theorem cutI {I : L2.St → Hp → Ow → Prop} [hs : Hs F M H] (h1 : t1 (En (fun σ' H' => ∃ F' M', Same F F' ∧ Hs F' M' H' ∧ I σ' F' M') R B C) σ H) (h2 : ∀ σ' F' M' H', Sm F F' → Hs F' M' H' → I σ' F' M' → t2 (En N R B C) σ' H') : Evl.tCut t1 t2 (En N R B C) σ H :=
  ⟨_, h1, fun σ' H' ⟨F', M', e, hs', p⟩ => h2 σ' F' M' H' ⟨e⟩ hs' p⟩
-- ifs
theorem ifP {p A B : Prop} [Decidable p] (h1 : p → A) (h2 : ¬ p → B) : if decide p = true then A else B := by
  by_cases hp : p
  · rw [if_pos (decide_eq_true hp)]; exact h1 hp
  · rw [if_neg (by rw [decide_eq_false hp]; decide)]; exact h2 hp
theorem ifN {p A B : Prop} [Decidable p] (h1 : ¬ p → A) (h2 : p → B) : if (!decide p) = true then A else B := by
  by_cases hp : p
  · rw [if_neg (by rw [decide_eq_true hp]; decide)]; exact h2 hp
  · rw [if_pos (by rw [decide_eq_false hp]; decide)]; exact h1 hp
theorem ifPT {p A B : Prop} [Decidable p] (hp : p) (h : A) : if decide p = true then A else B := by rw [if_pos (decide_eq_true hp)]; exact h
theorem ifPF {p A B : Prop} [Decidable p] (hp : ¬ p) (h : B) : if decide p = true then A else B := by rw [if_neg (by rw [decide_eq_false hp]; decide)]; exact h
theorem ifNT {p A B : Prop} [Decidable p] (hp : ¬ p) (h : A) : if (!decide p) = true then A else B := by rw [if_pos (by rw [decide_eq_false hp]; decide)]; exact h
theorem ifNF {p A B : Prop} [Decidable p] (hp : p) (h : B) : if (!decide p) = true then A else B := by rw [if_neg (by rw [decide_eq_true hp]; decide)]; exact h
theorem ifB {b : Bool} {A B : Prop} (h1 : b = true → A) (h2 : b = false → B) : if b = true then A else B := by
  cases b with
  | true => rw [if_pos rfl]; exact h1 rfl
  | false => rw [if_neg Bool.false_ne_true]; exact h2 rfl
end

/-! ### loops -/
section
variable {K : PySem.W.Frag} {σ : L2.St} {H F : Hp} {M : Ow} {g : TG} {tb : TS} {a : Addr} {xs : List V} {N B C : L2.St → Hp → Prop} {R : VK} {te : TE} {tr : TA} {tt : TT}
/-- what holds between two turns, over what is frozen and owned then -/
abbrev Iv := L2.St → Hp → Ow → Prop
def IvH (F : Hp) (I : Iv) : L2.St → Hp → Prop := fun σ H => ∃ F' M', Same F F' ∧ Hs F' M' H ∧ I σ F' M'
theorem IvH.mk {F F' : Hp} {M' : Ow} {I : Iv} (e : Same F F') (hs : Hs F' M' H) (h : I σ F' M') : IvH F I σ H := ⟨F', M', e, hs, h⟩
def nLoop (g : TG) (tb : TS) (N : L2.St → Hp → Prop) (R : VK) (σ : L2.St) (J : It) (H1 : Hp) : Prop := ∃ W : Nat → Nat → L2.St → Hp → Prop, (∃ m, W 0 m σ H1) ∧ ∀ i m σ H, W i m σ H →
  (J.stop i H ∧ N σ H) ∨ (J.go i H ∧ ∃ Nx : L2.St → Hp → Prop, (∀ σ' H', Nx σ' H' → ∃ m', m' < m ∧ W (i + 1) m' σ' H') ∧ ∀ x H', J.yld i H x H' → g x σ H' fun σ2 H2 => tb (En Nx R N Nx) σ2 H2)
def nRng1 (vs : List V) (H : Hp) (q : It → Hp → Prop) : Prop := ∃ j : Int, vs = [.int j] ∧ -(2 ^ 62) ≤ j ∧ j < 2 ^ 62 ∧ q (Itr 0 j.toNat) H
def nRng2 (vs : List V) (H : Hp) (q : It → Hp → Prop) : Prop := ∃ i j : Int, vs = [.int i, .int j] ∧ (-(2 ^ 62) ≤ i ∧ i < 2 ^ 62 ∧ -(2 ^ 62) ≤ j ∧ j < 2 ^ 62) ∧ q (Itr i (j - i).toNat) H
theorem nRng1_mk {j : Int} {q : It → Hp → Prop} (h1 : -4611686018427387904 ≤ j) (h2 : j < 4611686018427387904) (h : q (Itr 0 j.toNat) H) : nRng1 [.int j] H q := ⟨j, rfl, h1, h2, h⟩
theorem nRng2_mk {i j : Int} {q : It → Hp → Prop} (h1 : -4611686018427387904 ≤ i) (h2 : i < 4611686018427387904) (h3 : -4611686018427387904 ≤ j) (h4 : j < 4611686018427387904) (h : q (Itr i (j - i).toNat) H) : nRng2 [.int i, .int j] H q := ⟨i, j, rfl, ⟨h1, h2, h3, h4⟩, h⟩
def nSeqL (K : PySem.W.Frag) (x : V) (H1 : Hp) (q : It → Hp → Prop) : Prop := ∃ a, x = .ref a ∧ (∃ xs, SqL K H1 a xs) ∧ q (Itl K a) H1
def nSeqT (K : PySem.W.Frag) (x : V) (H1 : Hp) (q : It → Hp → Prop) : Prop := ∃ a, x = .ref a ∧ (∃ xs, SqT K H1 a xs) ∧ q (Itt K a) H1
instance : St1 (tFor (iRng1 tr) g tb (En N R B C) σ H) (tr σ H fun vs H1 => nRng1 vs H1 fun J H1 => nLoop g tb N R σ J H1) := ⟨id⟩
instance : St1 (tFor (iRng2 tr) g tb (En N R B C) σ H) (tr σ H fun vs H1 => nRng2 vs H1 fun J H1 => nLoop g tb N R σ J H1) := ⟨id⟩
instance : St1 (tFor (iList K te) g tb (En N R B C) σ H) (te σ H fun x H1 => nSeqL K x H1 fun J H1 => nLoop g tb N R σ J H1) := ⟨id⟩
instance : St1 (tFor (iTup K te) g tb (En N R B C) σ H) (te σ H fun x H1 => nSeqT K x H1 fun J H1 => nLoop g tb N R σ J H1) := ⟨id⟩
theorem nLoopR {lo : Int} {n : Nat} (I : Nat → Iv) [hs : Hs F M H] (h0 : I 0 σ F M)
    (step : ∀ (i : Nat) σ' F' M' H', i < n → Sm F F' → Hs F' M' H' → I i σ' F' M' → g (.int (lo + i)) σ' H' fun σ2 H2 => tb (En (IvH F (I (i + 1))) R N (IvH F (I (i + 1)))) σ2 H2)
    (done : ∀ σ' F' M' H', Sm F F' → Hs F' M' H' → I n σ' F' M' → N σ' H') : nLoop g tb N R σ (Itr lo n) H :=
  for_range (D := En N R N N) (lo := lo) (n := n) (fun i => IvH F (I i)) ⟨F, M, Same.refl F, hs, h0⟩ (fun i σ' H' hi ⟨F', M', e, hs', p⟩ => step i σ' F' M' H' hi ⟨e⟩ hs' p) (fun σ' H' ⟨F', M', e, hs', p⟩ => done σ' F' M' H' ⟨e⟩ hs' p)
theorem nLoopL (I : Nat → Iv) [hs : Hs F M H] [hx : FzL K F a xs] (h0 : I 0 σ F M)
    (step : ∀ i x σ' F' M' H', xs[i]? = some x → Sm F F' → Hs F' M' H' → I i σ' F' M' → g x σ' H' fun σ2 H2 => tb (En (IvH F (I (i + 1))) R N (IvH F (I (i + 1)))) σ2 H2)
    (done : ∀ σ' F' M' H', Sm F F' → Hs F' M' H' → I xs.length σ' F' M' → N σ' H') : nSeqL K (.ref a) H fun J H1 => nLoop g tb N R σ J H1 :=
  ⟨a, rfl, ⟨xs, same_l hs.fz hx.h⟩, for_list (D := En N R N N) (K := K) (a := a) (xs := xs) (fun i => IvH F (I i)) ⟨F, M, Same.refl F, hs, h0⟩ (fun i σ' H' _ ⟨F', M', e, hs', _⟩ => same_l hs'.fz (same_l e hx.h))
    (fun i x σ' H' hi ⟨F', M', e, hs', p⟩ => step i x σ' F' M' H' hi ⟨e⟩ hs' p) (fun σ' H' ⟨F', M', e, hs', p⟩ => done σ' F' M' H' ⟨e⟩ hs' p)⟩
theorem nLoopT (I : Nat → Iv) [hs : Hs F M H] [hx : FzT K F a xs] (h0 : I 0 σ F M)
    (step : ∀ i x σ' F' M' H', xs[i]? = some x → Sm F F' → Hs F' M' H' → I i σ' F' M' → g x σ' H' fun σ2 H2 => tb (En (IvH F (I (i + 1))) R N (IvH F (I (i + 1)))) σ2 H2)
    (done : ∀ σ' F' M' H', Sm F F' → Hs F' M' H' → I xs.length σ' F' M' → N σ' H') : nSeqT K (.ref a) H fun J H1 => nLoop g tb N R σ J H1 :=
  ⟨a, rfl, ⟨xs, same_t hs.fz hx.h⟩, for_tup (D := En N R N N) (K := K) (a := a) (xs := xs) (fun i => IvH F (I i)) ⟨F, M, Same.refl F, hs, h0⟩ (fun i σ' H' _ ⟨F', M', e, hs', _⟩ => same_t hs'.fz (same_t e hx.h))
    (fun i x σ' H' hi ⟨F', M', e, hs', p⟩ => step i x σ' F' M' H' hi ⟨e⟩ hs' p) (fun σ' H' ⟨F', M', e, hs', p⟩ => done σ' F' M' H' ⟨e⟩ hs' p)⟩
/-- over an owned list that no turn changes -/
theorem nLoopO (I : Nat → Iv) [hs : Hs F M H] [hx : Im M a (.lst xs)] (h0 : I 0 σ F M) (hk : ∀ i σ' F' M', I i σ' F' M' → Im M' a (.lst xs))
    (step : ∀ i x σ' F' M' H', xs[i]? = some x → Sm F F' → Hs F' M' H' → I i σ' F' M' → g x σ' H' fun σ2 H2 => tb (En (IvH F (I (i + 1))) R N (IvH F (I (i + 1)))) σ2 H2)
    (done : ∀ σ' F' M' H', Sm F F' → Hs F' M' H' → I xs.length σ' F' M' → N σ' H') : nSeqL K (.ref a) H fun J H1 => nLoop g tb N R σ J H1 :=
  ⟨a, rfl, ⟨xs, SqL.of (hs.im hx)⟩, for_list (D := En N R N N) (K := K) (a := a) (xs := xs) (fun i => IvH F (I i)) ⟨F, M, Same.refl F, hs, h0⟩ (fun i σ' H' _ ⟨F', M', e, hs', p⟩ => SqL.of (hs'.im (hk i σ' F' M' p)))
    (fun i x σ' H' hi ⟨F', M', e, hs', p⟩ => step i x σ' F' M' H' hi ⟨e⟩ hs' p) (fun σ' H' ⟨F', M', e, hs', p⟩ => done σ' F' M' H' ⟨e⟩ hs' p)⟩
/-- while: the word, what falls; the test's reading goes on with whatever is wanted of its answer -/
def WvH (F : Hp) (I : Nat → Iv) (m : Nat) : L2.St → Hp → Prop := fun σ H => ∃ m' F' M', m' < m ∧ Same F F' ∧ Hs F' M' H ∧ I m' σ F' M'
theorem WvH.mk {F F' : Hp} {M' : Ow} {I : Nat → Iv} {m m' : Nat} (l : m' < m) (e : Same F F') (hs : Hs F' M' H) (h : I m' σ F' M') : WvH F I m σ H := ⟨m', F', M', l, e, hs, h⟩
/-- the two ways of a while's test -/
structure WhB (tb : TS) (N : L2.St → Hp → Prop) (R : VK) (Nx : L2.St → Hp → Prop) (σ : L2.St) (b : Bool) (H1 : Hp) : Prop where
  yes : b = true → tb (En Nx R N Nx) σ H1
  no : b = false → N σ H1
def nWh (tb : TS) (N : L2.St → Hp → Prop) (R : VK) (q : (L2.St → Hp → Prop) → Prop) (σ : L2.St) (b : Bool) (H1 : Hp) : Prop := if b = true then ∃ Nx : L2.St → Hp → Prop, q Nx ∧ tb (En Nx R N Nx) σ H1 else N σ H1
theorem whileI (I : Nat → Iv) (m : Nat) [hs : Hs F M H] (h0 : I m σ F M)
    (step : ∀ m σ' F' M' H', Sm F F' → Hs F' M' H' → I m σ' F' M' → tt σ' H' fun b H1 => nWh tb N R (fun Nx => ∀ σ2 H2, Nx σ2 H2 → ∃ m', m' < m ∧ ∃ F' M', Same F F' ∧ Hs F' M' H2 ∧ I m' σ2 F' M') σ' b H1) : tWhile tt tb (En N R B C) σ H :=
  ⟨fun m σ H => ∃ F' M', Same F F' ∧ Hs F' M' H ∧ I m σ F' M', ⟨m, F, M, Same.refl F, hs, h0⟩, fun m σ H ⟨F', M', e, hs', p⟩ => step m σ F' M' H ⟨e⟩ hs' p⟩
theorem whY {I : Nat → Iv} {m : Nat} (h : tb (En (WvH F I m) R N (WvH F I m)) σ H) : nWh tb N R (fun Nx => ∀ σ2 H2, Nx σ2 H2 → ∃ m', m' < m ∧ ∃ F' M', Same F F' ∧ Hs F' M' H2 ∧ I m' σ2 F' M') σ true H := by
  unfold nWh
  rw [if_pos rfl]
  exact ⟨WvH F I m, fun σ2 H2 ⟨m', F', M', l, r⟩ => ⟨m', l, F', M', r⟩, h⟩
theorem whN {q : (L2.St → Hp → Prop) → Prop} (h : N σ H) : nWh tb N R q σ false H := by
  unfold nWh
  rw [if_neg Bool.false_ne_true]
  exact h
theorem whP {I : Nat → Iv} {m : Nat} {p : Prop} [Decidable p] (h1 : p → tb (En (WvH F I m) R N (WvH F I m)) σ H) (h2 : ¬ p → N σ H) :
    nWh tb N R (fun Nx => ∀ σ2 H2, Nx σ2 H2 → ∃ m', m' < m ∧ ∃ F' M', Same F F' ∧ Hs F' M' H2 ∧ I m' σ2 F' M') σ (decide p) H := by
  by_cases hp : p
  · rw [decide_eq_true hp]; exact whY (h1 hp)
  · rw [decide_eq_false hp]; exact whN (h2 hp)
end
/-! ### list comprehensions -/
section
variable {K : PySem.W.Frag} {σ : L2.St} {H F : Hp} {M : Ow} {Q : VK} {g : TG} {tt : TT} {te tl : TE} {tr : TA} {vs : List Nat} {a D : Addr} {xs acc : List V} {y : V}
def nComp (g : TG) (tt : TT) (te : TE) (vs : List Nat) (σ : L2.St) (Q : VK) (J : It) (H1 : Hp) : Prop := ∀ D, H1 D = none → ∃ W : Nat → Nat → Hp → Prop, (∃ m, W 0 m (upd H1 D (.lst []))) ∧ ∀ i m H, W i m H →
  (J.stop i H ∧ Q (.ref D) H) ∨ (J.go i H ∧ ∃ Nx : Hp → Prop, (∀ H', Nx H' → ∃ m', m' < m ∧ W (i + 1) m' H') ∧ ∀ x H', J.yld i H x H' → g x (wipe σ vs) H' fun σ2 H2 => wipe σ2 vs = wipe σ vs ∧ tt σ2 H2 fun b H3 =>
    if b = true then te σ2 H3 fun y H4 => ∃ acc, H4 D = some (.lst acc) ∧ acc.length < sizeLine ∧ Nx (upd H4 D (.lst (acc ++ [y]))) else Nx H3)
instance : St1 (tLc (iList K tl) g tt te vs σ H Q) (tl σ H fun x H1 => nSeqL K x H1 fun J H1 => nComp g tt te vs σ Q J H1) := ⟨id⟩
instance : St1 (tLc (iTup K tl) g tt te vs σ H Q) (tl σ H fun x H1 => nSeqT K x H1 fun J H1 => nComp g tt te vs σ Q J H1) := ⟨id⟩
instance : St1 (tLc (iRng1 tr) g tt te vs σ H Q) (tr σ H fun ws H1 => nRng1 ws H1 fun J H1 => nComp g tt te vs σ Q J H1) := ⟨id⟩
instance : St1 (tLc (iRng2 tr) g tt te vs σ H Q) (tr σ H fun ws H1 => nRng2 ws H1 fun J H1 => nComp g tt te vs σ Q J H1) := ⟨id⟩
/-- between two turns: the list so far at D -/
abbrev Cv := List V → Hp → Ow → Prop
def CvH (F : Hp) (D : Addr) (I : Cv) : Hp → Prop := fun H => ∃ F' M' acc, Same F F' ∧ Hs F' ((D, HO.lst acc) :: M') H ∧ I acc F' M'
def CvP (F : Hp) (D : Addr) (I : Cv) (y : V) : Hp → Prop := fun H => ∃ acc, H D = some (.lst acc) ∧ acc.length < sizeLine ∧ CvH F D I (upd H D (.lst (acc ++ [y])))
theorem CvH.mk {F F' : Hp} {M' : Ow} {I : Cv} (e : Same F F') (hs : Hs F' ((D, HO.lst acc) :: M') H) (h : I acc F' M') : CvH F D I H := ⟨F', M', acc, e, hs, h⟩
theorem CvP.mk {F F' : Hp} {M' : Ow} {I : Cv} (e : Same F F') (hs : Hs F' ((D, HO.lst acc) :: M') H) (hl : acc.length < 16777216) (h : I (acc ++ [y]) F' M') : CvP F D I y H :=
  ⟨acc, hs.at (j := 0) rfl, szl hl, F', M', _, e, hs.set (j := 0) rfl, h⟩
/-- the slots wiped -/
class Wp (σ : L2.St) (vs : List Nat) (σw : outParam L2.St) : Prop where
  h : wipe σ vs = σw
instance {σ : L2.St} : Wp σ [] σ := ⟨rfl⟩
instance {σ σ1 σ2 : L2.St} {v : Nat} {vs : List Nat} [a : Wp σ vs σ1] [b : Ss σ1 v none σ2] : Wp σ (v :: vs) σ2 := ⟨by unfold wipe; rw [a.h, b.h]⟩
def nWp (vs : List Nat) (σ2 σw : L2.St) (q : Prop) : Prop := wipe σ2 vs = σw ∧ q
instance {σ2 σw : L2.St} {q : Prop} [a : Wp σ2 vs σw] : St1 (nWp vs σ2 σw q) q := ⟨fun h => ⟨a.h, h⟩⟩
/-- a turn of a comprehension: the target, the test, the element -/
abbrev CvT (g : TG) (tt : TT) (te : TE) (vs : List Nat) (σw : L2.St) (F : Hp) (D : Addr) (I : Cv) (x : V) (H' : Hp) : Prop :=
  g x σw H' fun σ2 H2 => nWp vs σ2 σw (tt σ2 H2 fun b H3 => if b = true then te σ2 H3 fun y H4 => CvP F D I y H4 else CvH F D I H3)
theorem nCompL {σw : L2.St} (I : Nat → Cv) [hs : Hs F M H] [hw : Wp σ vs σw] [hx : FzL K F a xs] (h0 : I 0 [] F M)
    (step : ∀ i x acc D F' M' H', xs[i]? = some x → Sm F F' → Hs F' ((D, HO.lst acc) :: M') H' → I i acc F' M' → CvT g tt te vs σw F D (I (i + 1)) x H')
    (done : ∀ D acc F' M' H', F D = none → Sm F F' → Hs F' ((D, HO.lst acc) :: M') H' → I xs.length acc F' M' → Q (.ref D) H') : nSeqL K (.ref a) H fun J H1 => nComp g tt te vs σ Q J H1 :=
  ⟨a, rfl, ⟨xs, same_l hs.fz hx.h⟩, fun D hD => lc_list (K := K) (a := a) (xs := xs) (fun i => CvH F D (I i)) ⟨F, M, [], Same.refl F, hs.new hD, h0⟩ (fun i H' _ ⟨F', M', acc, e, hs', p⟩ => same_l hs'.fz (same_l e hx.h))
    (fun i x H' hi ⟨F', M', acc, e, hs', p⟩ => by have := step i x acc D F' M' H' hi ⟨e⟩ hs' p; rw [← hw.h] at this; exact this) (fun H' ⟨F', M', acc, e, hs', p⟩ => done D acc F' M' H' (hs.free hD) ⟨e⟩ hs' p)⟩
theorem nCompT {σw : L2.St} (I : Nat → Cv) [hs : Hs F M H] [hw : Wp σ vs σw] [hx : FzT K F a xs] (h0 : I 0 [] F M)
    (step : ∀ i x acc D F' M' H', xs[i]? = some x → Sm F F' → Hs F' ((D, HO.lst acc) :: M') H' → I i acc F' M' → CvT g tt te vs σw F D (I (i + 1)) x H')
    (done : ∀ D acc F' M' H', F D = none → Sm F F' → Hs F' ((D, HO.lst acc) :: M') H' → I xs.length acc F' M' → Q (.ref D) H') : nSeqT K (.ref a) H fun J H1 => nComp g tt te vs σ Q J H1 :=
  ⟨a, rfl, ⟨xs, same_t hs.fz hx.h⟩, fun D hD => lc_tup (K := K) (a := a) (xs := xs) (fun i => CvH F D (I i)) ⟨F, M, [], Same.refl F, hs.new hD, h0⟩ (fun i H' _ ⟨F', M', acc, e, hs', p⟩ => same_t hs'.fz (same_t e hx.h))
    (fun i x H' hi ⟨F', M', acc, e, hs', p⟩ => by have := step i x acc D F' M' H' hi ⟨e⟩ hs' p; rw [← hw.h] at this; exact this) (fun H' ⟨F', M', acc, e, hs', p⟩ => done D acc F' M' H' (hs.free hD) ⟨e⟩ hs' p)⟩
theorem nCompO {σw : L2.St} (I : Nat → Cv) [hs : Hs F M H] [hw : Wp σ vs σw] [hx : Im M a (.lst xs)] (h0 : I 0 [] F M) (hk : ∀ i acc F' M', I i acc F' M' → Im M' a (.lst xs))
    (step : ∀ i x acc D F' M' H', xs[i]? = some x → Sm F F' → Hs F' ((D, HO.lst acc) :: M') H' → I i acc F' M' → CvT g tt te vs σw F D (I (i + 1)) x H')
    (done : ∀ D acc F' M' H', F D = none → Sm F F' → Hs F' ((D, HO.lst acc) :: M') H' → I xs.length acc F' M' → Q (.ref D) H') : nSeqL K (.ref a) H fun J H1 => nComp g tt te vs σ Q J H1 :=
  ⟨a, rfl, ⟨xs, SqL.of (hs.im hx)⟩, fun D hD => lc_list (K := K) (a := a) (xs := xs) (fun i => CvH F D (I i)) ⟨F, M, [], Same.refl F, hs.new hD, h0⟩
    (fun i H' _ ⟨F', M', acc, e, hs', p⟩ => SqL.of (hs'.im (@im1 _ _ _ _ (hk i acc F' M' p))))
    (fun i x H' hi ⟨F', M', acc, e, hs', p⟩ => by have := step i x acc D F' M' H' hi ⟨e⟩ hs' p; rw [← hw.h] at this; exact this) (fun H' ⟨F', M', acc, e, hs', p⟩ => done D acc F' M' H' (hs.free hD) ⟨e⟩ hs' p)⟩
theorem nCompR {lo : Int} {n : Nat} {σw : L2.St} (I : Nat → Cv) [hs : Hs F M H] [hw : Wp σ vs σw] (h0 : I 0 [] F M)
    (step : ∀ (i : Nat) acc D F' M' H', i < n → Sm F F' → Hs F' ((D, HO.lst acc) :: M') H' → I i acc F' M' → CvT g tt te vs σw F D (I (i + 1)) (.int (lo + i)) H')
    (done : ∀ D acc F' M' H', F D = none → Sm F F' → Hs F' ((D, HO.lst acc) :: M') H' → I n acc F' M' → Q (.ref D) H') : nComp g tt te vs σ Q (Itr lo n) H := fun D hD =>
  lc_range (lo := lo) (n := n) (fun i => CvH F D (I i)) ⟨F, M, [], Same.refl F, hs.new hD, h0⟩
    (fun i H' hi ⟨F', M', acc, e, hs', p⟩ => by have := step i acc D F' M' H' hi ⟨e⟩ hs' p; rw [← hw.h] at this; exact this) (fun H' ⟨F', M', acc, e, hs', p⟩ => done D acc F' M' H' (hs.free hD) ⟨e⟩ hs' p)
end

/-! ### isinstance, all -/
class Kt (a b : String) (r : outParam Bool) : Prop where
  h : kitB a b = some r
instance : Kt "int" "int" true := ⟨by decide +kernel⟩
instance : Kt "int" "bool" false := ⟨by decide +kernel⟩
instance : Kt "int" "str" false := ⟨by decide +kernel⟩
instance : Kt "int" "tuple" false := ⟨by decide +kernel⟩
instance : Kt "int" "list" false := ⟨by decide +kernel⟩
instance : Kt "bool" "int" true := ⟨by decide +kernel⟩
instance : Kt "bool" "bool" true := ⟨by decide +kernel⟩
instance : Kt "bool" "str" false := ⟨by decide +kernel⟩
instance : Kt "bool" "tuple" false := ⟨by decide +kernel⟩
instance : Kt "bool" "list" false := ⟨by decide +kernel⟩
instance : Kt "str" "int" false := ⟨by decide +kernel⟩
instance : Kt "str" "bool" false := ⟨by decide +kernel⟩
instance : Kt "str" "str" true := ⟨by decide +kernel⟩
instance : Kt "str" "tuple" false := ⟨by decide +kernel⟩
instance : Kt "str" "list" false := ⟨by decide +kernel⟩
instance : Kt "NoneType" "int" false := ⟨by decide +kernel⟩
instance : Kt "NoneType" "bool" false := ⟨by decide +kernel⟩
instance : Kt "NoneType" "str" false := ⟨by decide +kernel⟩
instance : Kt "NoneType" "tuple" false := ⟨by decide +kernel⟩
instance : Kt "NoneType" "list" false := ⟨by decide +kernel⟩
instance : Kt "tuple" "int" false := ⟨by decide +kernel⟩
instance : Kt "tuple" "bool" false := ⟨by decide +kernel⟩
instance : Kt "tuple" "str" false := ⟨by decide +kernel⟩
instance : Kt "tuple" "tuple" true := ⟨by decide +kernel⟩
instance : Kt "tuple" "list" false := ⟨by decide +kernel⟩
instance : Kt "list" "int" false := ⟨by decide +kernel⟩
instance : Kt "list" "bool" false := ⟨by decide +kernel⟩
instance : Kt "list" "str" false := ⟨by decide +kernel⟩
instance : Kt "list" "tuple" false := ⟨by decide +kernel⟩
instance : Kt "list" "list" true := ⟨by decide +kernel⟩
class TyC (K : PySem.W.Frag) (H : Hp) (x : V) (a : outParam String) : Prop where
  h : TyX K H x (.type a)
section
variable {K : PySem.W.Frag} {H F : Hp} {M : Ow} {p : Addr} {xs : List V} {Q : VK}
theorem tyT (h : SqT K H p xs) : TyX K H (.ref p) (.type "tuple") := by
  rcases h with (h | ⟨o, h⟩) | ⟨o, its, n, e, c, _⟩
  · exact .base (.tup h)
  · exact .fTuple h
  · exact .kTuple e c
theorem tyL (h : SqL K H p xs) : TyX K H (.ref p) (.type "list") := by
  rcases h with (h | ⟨o, h⟩) | ⟨o, its, n, e, c, _⟩
  · exact .base (.lst h)
  · exact .base (.frz h)
  · exact .kList e c
instance {i : Int} : TyC K H (.int i) "int" := ⟨.base (.int i)⟩
instance {b : Bool} : TyC K H (.bl b) "bool" := ⟨.base (.bl b)⟩
instance {x : Str} : TyC K H (.str x) "str" := ⟨.base (.str x)⟩
instance : TyC K H .non "NoneType" := ⟨.base .non⟩
instance [hs : Hs F M H] [hm : Im M p (.lst xs)] : TyC K H (.ref p) "list" := ⟨tyL (SqL.of (hs.im hm))⟩
instance (priority := 900) [hs : Hs F M H] [hm : FzT K F p xs] : TyC K H (.ref p) "tuple" := ⟨tyT (same_t hs.fz hm.h)⟩
instance (priority := 800) [hs : Hs F M H] [hm : FzL K F p xs] : TyC K H (.ref p) "list" := ⟨tyL (same_l hs.fz hm.h)⟩
instance {x : V} {a T : String} {r : Bool} [t : TyC K H x a] [k : Kt a T r] : St1 (rIsi K [x, .ty T] H Q) (Q (.bl r) H) := ⟨fun h => ⟨x, .ty T, _, _, r, rfl, .ty T, t.h, kit_ty k.h, h⟩⟩
theorem nAll {bs : List Bool} [hs : Hs F M H] [hm : Im M p (.lst (bs.map V.bl))] (h : Q (.bl (bs.all id)) H) : rAll K [.ref p] H Q := ⟨p, bs, rfl, SqL.of (hs.im hm), h⟩
theorem nAllT {n : Nat} [hs : Hs F M H] [hm : Im M p (.lst (List.replicate n (V.bl true)))] (h : Q (.bl true) H) : rAll K [.ref p] H Q := ⟨p, List.replicate n true, rfl, by
  rw [List.map_replicate]; exact SqL.of (hs.im hm), by rw [List.all_replicate]; simp; exact h⟩
end

/-! ### calls of the text's own -/
section
variable (P : Program) (w : World) (K : PySem.W.Frag) (mg : Str → Option Value) (base : Heap) (CX : CXT)
structure Fn (x : Str) (k : Nat) (ps : List Str) (dvs : List V) (sp : Sp) : Prop where
  fn : ∃ fd ds, FnOk P w K mg base CX k (He.ga K x) fd ps sp ∧ Binds K fd ps ds ∧ Vals dvs ds
  kp : PySem.W.keepIn K (.ref (He.ga K x)) = true
  gl : mg x = some (.ref (He.ga K x))
structure Me (C m : Str) (k : Nat) (ps : List Str) (dvs : List V) (sp : Sp) : Prop where
  fn : ∃ fd ds, FnOk P w K mg base CX k (He.ma K (He.ga K C) m) fd ps sp ∧ Binds K fd ps ds ∧ Vals dvs ds
  cl : Cls K (He.ga K C)
  mt : Meth K (He.ga K C) m (He.ma K (He.ga K C) m)
structure Mkr (C : Str) (k : Nat) (ps : List Str) (dvs : List V) (sp : Sp) : Prop where
  fn : ∃ fd ds, FnOk P w K mg base CX k (He.ma K (He.ga K C) "__init__") fd ps sp ∧ Binds K fd ps ds ∧ Vals dvs ds
  mkk : Mk K (He.ga K C) (He.ma K (He.ga K C) "__init__")
  gl : mg C = some (.ref (He.ga K C))
end
section
variable {X : Cx} {CX : CXT} {k : Nat} {ps : List Str} {sp : Sp} {dvs : List V} {E : XK} {x m C : Str} {p pos apos : Pos} {e o : Expr} {es : List Expr} {ta : TE} {t : TA}
theorem pe_fn (G : Fn X.prog X.w X.K X.mg X.base CX x k ps dvs sp) (hr : Room k X.A) (hx : Passes CX X E) (ha : PA X (e :: es) t) (hg : Gl X x := by rfl) (hdb : (x == ("__debug__" : Str)) = false := by decide)
    (he : starEach (e :: es) X.env = (false, eval e X.env) :: starEach es X.env := by rfl) (hpl : (backTo pos (starEach es X.env)).any (·.1) = false := by rfl) : PE X (.Call (.Name x p) (e :: es) [] pos) (tCall sp dvs E t) := by
  obtain ⟨fd, ds, F, b, v⟩ := G.fn
  exact pe_call F hr hg G.gl G.kp b v hx ha hdb he hpl
theorem pe_fn0 (G : Fn X.prog X.w X.K X.mg X.base CX x k ps dvs sp) (hr : Room k X.A) (hx : Passes CX X E) (hg : Gl X x := by rfl) (hdb : (x == ("__debug__" : Str)) = false := by decide) : PE X (.Call (.Name x p) [] [] pos) (tCall sp dvs E tNil) := by
  obtain ⟨fd, ds, F, b, v⟩ := G.fn
  exact pe_call0 F hr hg G.gl G.kp b v hx hdb
theorem pe_me {pl : Sem Bool} (G : Me X.prog X.w X.K X.mg X.base CX C m k ps dvs sp) (ho : PE X o ta) (hr : Room k X.A) (hx : Passes CX X E) (ha : PA X (e :: es) t)
    (hst : starEach (e :: es) X.env = (false, eval e X.env) :: starEach es X.env := by rfl) (hpl : (backTo pos (starEach es X.env)).any (·.1) = false := by rfl)
    (ht : eval (.Call (.Attribute o m apos) (e :: es) [] pos) X.env = (do
      let ov ← eval o X.env
      standAt apos.atName
      let (f, first) ← holding [ov] (getMethod ov m pl)
      callWith pos f first (backTo pos (starEach (e :: es) X.env)) (backToKw pos (keywordEach [] X.env))) := by rfl) :
    PE X (.Call (.Attribute o m apos) (e :: es) [] pos) (tMeth (He.ga X.K C) m sp dvs E ta t) := by
  obtain ⟨fd, ds, F, b, v⟩ := G.fn
  exact pe_meth ho G.cl G.mt F hr b v hx ha hst hpl ht
theorem pe_me0 {pl : Sem Bool} (G : Me X.prog X.w X.K X.mg X.base CX C m k ps dvs sp) (ho : PE X o ta) (hr : Room k X.A) (hx : Passes CX X E)
    (ht : eval (.Call (.Attribute o m apos) [] [] pos) X.env = (do
      let ov ← eval o X.env
      standAt apos.atName
      let (f, first) ← holding [ov] (getMethod ov m pl)
      callWith pos f first (backTo pos (starEach [] X.env)) (backToKw pos (keywordEach [] X.env))) := by rfl) :
    PE X (.Call (.Attribute o m apos) [] [] pos) (tMeth (He.ga X.K C) m sp dvs E ta tNil) := by
  obtain ⟨fd, ds, F, b, v⟩ := G.fn
  exact pe_meth0 ho G.cl G.mt F hr b v hx ht
theorem pe_mkr (G : Mkr X.prog X.w X.K X.mg X.base CX C k ps dvs sp) (hr : Room (k + 1) X.A) (hx : Passes CX X E) (ha : PA X (e :: es) t) (hg : Gl X C := by rfl) (hdb : (C == ("__debug__" : Str)) = false := by decide)
    (he : starEach (e :: es) X.env = (false, eval e X.env) :: starEach es X.env := by rfl) (hpl : (backTo pos (starEach es X.env)).any (·.1) = false := by rfl) : PE X (.Call (.Name C p) (e :: es) [] pos) (tMake (He.ga X.K C) sp dvs E t) := by
  obtain ⟨fd, ds, F, b, v⟩ := G.fn
  exact pe_make G.mkk F hr hg G.gl b v hx ha hdb he hpl
theorem pe_mkr0 (G : Mkr X.prog X.w X.K X.mg X.base CX C k ps dvs sp) (hr : Room (k + 1) X.A) (hx : Passes CX X E) (hg : Gl X C := by rfl) (hdb : (C == ("__debug__" : Str)) = false := by decide) : PE X (.Call (.Name C p) [] [] pos) (tMake (He.ga X.K C) sp dvs E tNil) := by
  obtain ⟨fd, ds, F, b, v⟩ := G.fn
  exact pe_make0 G.mkk F hr hg G.gl b v hx hdb
/-- a new instance: what __init__ is asked -/
def nMake (C : Addr) (sp : Sp) (E : XK) (vs : List V) (H1 : Hp) (Q : VK) : Prop := ∀ x dx, H1 x = none → H1 dx = none → dx ≠ x → sp (.ref x :: vs) (upd (upd H1 dx (.own x)) x (.ins C dx [])) (fun v H2 => v = .non ∧ Q (.ref x) H2) E
instance {C : Addr} {σ : L2.St} {H : Hp} {Q : VK} {tr : TA} : St1 (tMake C sp dvs E tr σ H Q) (tr σ H fun vs H1 => nMake C sp E (vs ++ dvs) H1 Q) := ⟨id⟩
theorem Hs.make {F H : Hp} {M : Ow} {x dx C : Addr} {ns : List Str} (hs : Hs F M H) (h1 : H x = none) (h2 : H dx = none) (h3 : dx ≠ x) : Hs (upd F dx (.own x)) ((x, Ob C dx ns []) :: M) (upd (upd H dx (.own x)) x (.ins C dx [])) ∧ Same F (upd F dx (.own x)) := by
  refine ⟨?_, same_upd (hs.free h2)⟩
  have e : (Ob C dx ns [] : HO) = .ins C dx [] := by show HO.ins C dx (ns.zip []) = _; rw [List.zip_nil_right]
  rw [e]
  exact (hs.newF h2).new (by rw [upd_ne (Ne.symm h3)]; exact h1)
theorem nMake_mk {C : Addr} {ns : List Str} {vs : List V} {F H : Hp} {M : Ow} {Q : VK} [hs : Hs F M H] (h : ∀ x dx F' H', F x = none → Sm F F' → Hs F' ((x, Ob C dx ns []) :: M) H' → sp (.ref x :: vs) H' (fun v H2 => v = .non ∧ Q (.ref x) H2) E) : nMake C sp E vs H Q :=
  fun x dx h1 h2 h3 => h x dx _ _ (hs.free h1) ⟨(hs.make (C := C) (ns := ns) h1 h2 h3).2⟩ (hs.make h1 h2 h3).1
end
end Sh


set_option Elab.async false
set_option linter.all false
set_option maxRecDepth 100000
set_option maxHeartbeats 4000000
/-! # Further rules: what walks a list or a tuple -/
namespace Sh
open PySem PySem.Spec PyProof.Rows L2
section
variable {X : Cx} {tg : Expr}
/-- a list or a tuple is walked: whichever it turns out to be -/
def iLT (K : PySem.W.Frag) (tl : TE) : TI := fun σ H R => tl σ H fun x H1 => (∃ a, x = .ref a ∧ (∃ xs, SqL K H1 a xs) ∧ R (Itl K a) H1) ∨ (∃ a, x = .ref a ∧ (∃ xs, SqT K H1 a xs) ∧ R (Itt K a) H1)
/-- an iterator laid at the heap's end is ours -/
theorem laid_ours {pins : List (Addr × Obj)} {σ : L2.St} {H : Hp} {s : Shared} {o : Obj} {J : It} {tn : Nat → Heap → Prop} {R : It → Hp → Prop} (I : Inv X pins σ H s) (tt : Turn X.prog X.w X.K tg J [s.heap.objs.size] s.heap.objs.size tn)
    (h0 : tn 0 (s.heap.push o)) (q : R J H) : PIE X pins σ tg R (.ref s.heap.objs.size) { s with heap := s.heap.push o } := by
  have kept : Inv X pins σ H { s with heap := s.heap.push o } := I.kept (t' := s.toks) (fun _ _ e => Heap.get?_push_of_some _ e)
  refine ⟨_, [s.heap.objs.size], tn, J, H, rfl, kept, tt, h0, ?_, q⟩
  intro b hb
  rw [List.mem_singleton.mp hb]
  exact I.fpOk (Nat.le_refl _) (I.hok.fresh (Nat.le_refl _))
theorem pi_lt {l : Expr} {tl : TE} (hl : PE X l tl) : PI X tg l (iLT X.K tl) := by
  constructor
  intro pins s σ H R I h
  refine thn (hl.run pins s σ H _ I h) ?_
  rintro v s1 ⟨x, H1, I1, r1, q1⟩
  rcases q1 with ⟨a, rfl, ⟨xs, hq⟩, q⟩ | ⟨a, rfl, ⟨xs, hq⟩, q⟩ <;> cases r1
  · obtain ⟨its, -, p, -⟩ := I1.list hq
    exact wpAny_pyIter_list p.isList (laid_ours I1 (turn_list a _) ⟨_, Heap.get?_push_size _ rfl, rfl, rfl⟩ q)
  · obtain ⟨its, -, p, -⟩ := I1.tuple hq
    exact wpAny_pyIter_tuple (items := its.toArray) p (laid_ours I1 (turn_tuple a _) ⟨_, Heap.get?_push_size _ rfl, rfl, rfl⟩ q)
end
section
variable {K : PySem.W.Frag} {σ : L2.St} {H F : Hp} {M : Ow} {g : TG} {tb : TS} {a : Addr} {xs : List V} {N B C : L2.St → Hp → Prop} {R : VK} {te : TE} {tt : TT} {Q : VK} {vs : List Nat} {tl : TE}
def nSeqLT (K : PySem.W.Frag) (x : V) (H1 : Hp) (q : It → Hp → Prop) : Prop := nSeqL K x H1 q ∨ nSeqT K x H1 q
instance : St1 (tFor (iLT K te) g tb (En N R B C) σ H) (te σ H fun x H1 => nSeqLT K x H1 fun J H1 => nLoop g tb N R σ J H1) := ⟨id⟩
instance : St1 (tLc (iLT K tl) g tt te vs σ H Q) (tl σ H fun x H1 => nSeqLT K x H1 fun J H1 => nComp g tt te vs σ Q J H1) := ⟨id⟩
theorem nLoopLT (I : Nat → Iv) [hs : Hs F M H] (hx : SqL K F a xs ∨ SqT K F a xs) (h0 : I 0 σ F M)
    (step : ∀ i x σ' F' M' H', xs[i]? = some x → Sm F F' → Hs F' M' H' → I i σ' F' M' → g x σ' H' fun σ2 H2 => tb (En (IvH F (I (i + 1))) R N (IvH F (I (i + 1)))) σ2 H2)
    (done : ∀ σ' F' M' H', Sm F F' → Hs F' M' H' → I xs.length σ' F' M' → N σ' H') : nSeqLT K (.ref a) H fun J H1 => nLoop g tb N R σ J H1 := by
  rcases hx with hx | hx
  · have : FzL K F a xs := ⟨hx⟩
    exact .inl (nLoopL I h0 step done)
  · have : FzT K F a xs := ⟨hx⟩
    exact .inr (nLoopT I h0 step done)
end
end Sh


set_option Elab.async false
set_option linter.all false
set_option maxRecDepth 100000
set_option maxHeartbeats 4000000
/-! # Data: rows of tuples of ints and the like -/
namespace Sh
open PySem PySem.Spec PyProof.Rows L2
section
variable {K : PySem.W.Frag} {F F' : Hp}
theorem dpa_len : ∀ {xs : List V} {ds : List PyData}, DpAll K F xs ds → xs.length = ds.length
  | _, _, .nil => rfl
  | _, _, .cons _ r => congrArg (· + 1) (dpa_len r)
theorem dpa_get : ∀ {xs : List V} {ds : List PyData} {i : Nat}, DpAll K F xs ds → i < ds.length → ∃ v d, xs[i]? = some v ∧ ds[i]? = some d ∧ Dp K F v d
  | _, _, _, .nil, h => by simp at h
  | _, _, 0, .cons a _, _ => ⟨_, _, rfl, rfl, a⟩
  | _, _, i + 1, .cons _ r, h => by
    obtain ⟨v, d, h1, h2, h3⟩ := dpa_get (i := i) r (by simpa using h)
    exact ⟨v, d, by simpa using h1, by simpa using h2, h3⟩
theorem dpa_at : ∀ {xs : List V} {ds : List PyData} {i : Nat} {v : V}, DpAll K F xs ds → xs[i]? = some v → ∃ d, ds[i]? = some d ∧ Dp K F v d
  | _, _, i, v, h, e => by
    have hl := (List.getElem?_eq_some_iff.mp e).1
    rw [dpa_len h] at hl
    obtain ⟨v', d, h1, h2, h3⟩ := dpa_get h hl
    rw [e] at h1; cases h1
    exact ⟨d, h2, h3⟩
theorem dpa_app : ∀ {xs ys : List V} {ds es : List PyData}, DpAll K F xs ds → DpAll K F ys es → DpAll K F (xs ++ ys) (ds ++ es)
  | _, _, _, _, .nil, h => h
  | _, _, _, _, .cons a r, h => .cons a (dpa_app r h)
theorem dpa_snoc : ∀ {xs : List V} {ds : List PyData} {d : PyData}, DpAll K F xs (ds ++ [d]) → ∃ ys v, xs = ys ++ [v] ∧ DpAll K F ys ds ∧ Dp K F v d
  | _, [], _, .cons a .nil => ⟨[], _, rfl, .nil, a⟩
  | _, _ :: ds, _, .cons a r => by
    obtain ⟨ys, v, rfl, h1, h2⟩ := dpa_snoc (ds := ds) r
    exact ⟨_ :: ys, v, rfl, .cons a h1, h2⟩
theorem dpa_set : ∀ {xs : List V} {ds : List PyData} {v : V} {d : PyData} {i : Nat}, DpAll K F xs ds → Dp K F v d → DpAll K F (xs.set i v) (ds.set i d)
  | _, _, _, _, _, .nil, _ => .nil
  | _, _, _, _, 0, .cons _ r, h => .cons h r
  | _, _, _, _, _ + 1, .cons a r, h => .cons a (dpa_set r h)
mutual
theorem dp_mono (e : Same F F') : ∀ {d : PyData} {v : V}, Dp K F v d → Dp K F' v d
  | _, _, .non => .non
  | _, _, .bl b => .bl b
  | _, _, .int i => .int i
  | _, _, .str x => .str x
  | _, _, .lst h r => .lst (same_l e h) (dpa_mono e r)
  | _, _, .tup h r => .tup (same_t e h) (dpa_mono e r)
theorem dpa_mono (e : Same F F') : ∀ {ds : List PyData} {vs : List V}, DpAll K F vs ds → DpAll K F' vs ds
  | _, _, .nil => .nil
  | _, _, .cons h r => .cons (dp_mono e h) (dpa_mono e r)
end
theorem dp_int {v : V} {i : Int} (h : Dp K F v (.int i)) : v = .int i := by cases h; rfl
theorem dp_str {v : V} {x : Str} (h : Dp K F v (.str x)) : v = .str x := by cases h; rfl
theorem dp_tup {v : V} {ds : List PyData} (h : Dp K F v (.tuple ds)) : ∃ t xs, v = .ref t ∧ SqT K F t xs ∧ DpAll K F xs ds := by
  cases h with | tup a b => exact ⟨_, _, rfl, a, b⟩
theorem dp_lst {v : V} {ds : List PyData} (h : Dp K F v (.list ds)) : ∃ t xs, v = .ref t ∧ SqL K F t xs ∧ DpAll K F xs ds := by
  cases h with | lst a b => exact ⟨_, _, rfl, a, b⟩
theorem dpa_ints : ∀ {xs : List V} {ns : List Int}, DpAll K F xs (ns.map .int) → xs = ns.map V.int
  | _, [], .nil => rfl
  | _, _ :: ns, .cons a r => by rw [dp_int a, dpa_ints (ns := ns) r]; rfl
theorem dpa_of_ints : ∀ {ns : List Int}, DpAll K F (ns.map V.int) (ns.map .int)
  | [] => .nil
  | n :: _ => .cons (.int n) dpa_of_ints
/-- three ints -/
abbrev Tr := Int × Int × Int
def trD (t : Tr) : PyData := .tuple [.int t.1, .int t.2.1, .int t.2.2]
theorem dp_tr {v : V} {t : Tr} (h : Dp K F v (trD t)) : ∃ a, v = .ref a ∧ SqT K F a [.int t.1, .int t.2.1, .int t.2.2] := by
  obtain ⟨a, xs, rfl, h1, h2⟩ := dp_tup h
  have : xs = [t.1, t.2.1, t.2.2].map V.int := dpa_ints h2
  subst this
  exact ⟨a, rfl, h1⟩
theorem dp_trI {a : Addr} {x y z : Int} (h : SqT K F a [.int x, .int y, .int z]) : Dp K F (.ref a) (trD (x, y, z)) := .tup h (.cons (.int _) (.cons (.int _) (.cons (.int _) .nil)))
end
end Sh


set_option Elab.async false
set_option linter.all false
set_option maxRecDepth 100000
set_option maxHeartbeats 4000000
/-! # Texts: signs, slices, turned round, repeated, joined; chains of three comparisons -/
namespace Sh
open PySem PySem.Spec PyProof.Rows L2
open SX (S)
theorem strLits {a b : Str} (h : a = b) : V.str a = V.str b := by rw [h]

/-! ### rules -/
section
variable {X : Cx} {a b c d e o : Expr} {ta tb tc td te to : TE} {pos : Pos} {op1 op2 op3 : CmpOp} {r r' r'' : R2}
/-- three comparisons in a row -/
def nCh (r : R2) (x y : V) (H : Hp) (Q : VK) (go : Hp → Prop) : Prop := r x y H fun z H' => ∃ k, z = .bl k ∧ (if k = true then go H' else Q (.bl false) H')
def tChain3 (r r' r'' : R2) (ta tb tc td : TE) : TE := fun σ H Q => ta σ H fun x H1 => tb σ H1 fun y H2 => nCh r x y H2 Q fun H3 => tc σ H3 fun z H4 => nCh r' y z H4 Q fun H5 => td σ H5 fun w H6 => r'' z w H6 Q
theorem pe_chain3 (h1 : OpR X (compareOp op1) r) (h2 : OpR X (compareOp op2) r') (h3 : OpR X (compareOp op3) r'') (ha : PE X a ta) (hb : PE X b tb) (hc : PE X c tc) (hd : PE X d td)
    (hm : lastMarks [op1, op2, op3] [b, c, d] = false := by with_unfolding_all rfl) : PE X (.Compare a [op1, op2, op3] [b, c, d] pos) (tChain3 r r' r'' ta tb tc td) := by
  constructor
  intro pins s σ H Q I h
  refine Compare_chain (thn (ha.run pins s σ H _ I h) ?_) hm
  rintro v1 s1 ⟨x1, G1, I1, e1, q1⟩
  refine chain_link (thn (hb.run pins s1 σ G1 _ I1 q1) ?_)
  rintro v2 s2 ⟨x2, G2, I2, e2, q2⟩
  refine thn (h1 pins s2 σ G2 x1 x2 v1 v2 _ I2 e1 e2 q2) ?_
  rintro u s3 ⟨z, G3, I3, e3, k, rfl, q3⟩
  cases e3
  refine wpAny_truthy_bool ?_
  cases k with
  | false => exact ite_ff ⟨.bl false, G3, I3, rfl, q3⟩
  | true =>
    refine ite_tt (chain_link (thn (hc.run pins s3 σ G3 _ I3 q3) ?_))
    rintro v4 s4 ⟨x4, G4, I4, e4, q4⟩
    refine thn (h2 pins s4 σ G4 x2 x4 v2 v4 _ I4 e2 e4 q4) ?_
    rintro u5 s5 ⟨z5, G5, I5, e5, k5, rfl, q5⟩
    cases e5
    refine wpAny_truthy_bool ?_
    cases k5 with
    | false => exact ite_ff ⟨.bl false, G5, I5, rfl, q5⟩
    | true =>
      refine ite_tt (chain_last (thn (hd.run pins s5 σ G5 _ I5 q5) ?_))
      rintro v6 s6 ⟨x6, G6, I6, e6, q6⟩
      exact h3 pins s6 σ G6 x4 x6 v4 v6 Q I6 e4 e6 q6
theorem pt_chain3 (h1 : OpR X (compareOp op1) r) (h2 : OpR X (compareOp op2) r') (h3 : OpR X (compareOp op3) r'') (ha : PE X a ta) (hb : PE X b tb) (hc : PE X c tc) (hd : PE X d td)
    (hm : lastMarks [op1, op2, op3] [b, c, d] = false := by with_unfolding_all rfl) : PT X (.Compare a [op1, op2, op3] [b, c, d] pos) (tTest (tChain3 r r' r'' ta tb tc td)) := by
  constructor
  intro pins s σ H Q I h
  refine isTrue_chain (thn (ha.run pins s σ H _ I h) ?_) hm
  rintro v1 s1 ⟨x1, G1, I1, e1, q1⟩
  refine test_link (thn (hb.run pins s1 σ G1 _ I1 q1) ?_)
  rintro v2 s2 ⟨x2, G2, I2, e2, q2⟩
  refine thn (h1 pins s2 σ G2 x1 x2 v1 v2 _ I2 e1 e2 q2) ?_
  rintro u s3 ⟨z, G3, I3, e3, k, rfl, q3⟩
  cases e3
  refine wpAny_truthy_bool ?_
  cases k with
  | false =>
    obtain ⟨k', ek, q'⟩ := q3
    cases ek
    exact ite_ff ⟨G3, I3, q'⟩
  | true =>
    refine ite_tt (test_link (thn (hc.run pins s3 σ G3 _ I3 q3) ?_))
    rintro v4 s4 ⟨x4, G4, I4, e4, q4⟩
    refine thn (h2 pins s4 σ G4 x2 x4 v2 v4 _ I4 e2 e4 q4) ?_
    rintro u5 s5 ⟨z5, G5, I5, e5, k5, rfl, q5⟩
    cases e5
    refine wpAny_truthy_bool ?_
    cases k5 with
    | false =>
      obtain ⟨k', ek, q'⟩ := q5
      cases ek
      exact ite_ff ⟨G5, I5, q'⟩
    | true =>
      refine ite_tt (test_last (thn (hd.run pins s5 σ G5 _ I5 q5) ?_))
      rintro v6 s6 ⟨x6, G6, I6, e6, q6⟩
      refine thn (h3 pins s6 σ G6 x4 x6 v4 v6 _ I6 e4 e6 q6) ?_
      rintro u7 s7 ⟨z7, G7, I7, e7, k7, rfl, q7⟩
      cases e7
      exact wpAny_truthy_bool ⟨G7, I7, q7⟩
/-- a sign in a text -/
def rInSign : R2 := fun x y H Q => ∃ (c : Nat) (z : Str), x = .str ⟨#[c]⟩ ∧ y = .str z ∧ Q (.bl (decide (c ∈ z.cps.toList))) H
def rAddS : R2 := fun x y H Q => ∃ i j, x = .str i ∧ y = .str j ∧ i.length + j.length ≤ sizeLine ∧ Q (.str (i ++ j)) H
/-- a text, repeated -/
def rRepS : R2 := fun x y H Q => ∃ (z : List Nat) (k : Int), x = .str (S z) ∧ y = .int k ∧ -9223372036854775808 ≤ k ∧ k < 9223372036854775808 ∧ z.length * k.toNat ≤ 16777216 ∧ Q (.str (S (List.replicate k.toNat z).flatten)) H
theorem mul_S (z : List Nat) (k : Int) (h0 : 0 ≤ k ∨ k < 0) : Txt.mul (S z) k = S (List.replicate k.toNat z).flatten := by
  unfold Txt.mul
  by_cases h : k < 1
  · rw [if_pos h]
    have : k.toNat = 0 := by omega
    rw [this]
    rfl
  rw [if_neg h]
  by_cases h1 : (k == 1 || (S z).length == 0) = true
  · rw [if_pos h1]
    rw [Bool.or_eq_true] at h1
    rcases h1 with h1 | h1
    · have : k = 1 := eq_of_beq h1
      subst this
      show S z = S (List.replicate 1 z).flatten
      simp
    · have hz : z = [] := by
        have := eq_of_beq h1
        rw [SX.S_len] at this
        exact List.length_eq_zero_iff.mp this
      subst hz
      have e : (List.replicate k.toNat ([] : List Nat)).flatten = [] := List.flatten_eq_nil_iff.mpr fun l hl => (List.mem_replicate.mp hl).2
      rw [e]
  · rw [if_neg h1]
    have key : ∀ (n : Nat) (acc : List Nat), (List.replicate n (S z).cps).foldl (· ++ ·) acc.toArray = (acc ++ (List.replicate n z).flatten).toArray := by
      intro n
      induction n with
      | zero => intro acc; show acc.toArray = (acc ++ []).toArray; rw [List.append_nil]
      | succ n ih =>
        intro acc
        rw [List.replicate_succ, List.foldl_cons, List.replicate_succ, List.flatten_cons]
        have : acc.toArray ++ (S z).cps = (acc ++ z).toArray := List.append_toArray ..
        rw [this, ih, List.append_assoc]
    have := key k.toNat []
    simp only [List.nil_append] at this
    show (⟨(List.replicate k.toNat (S z).cps).foldl (· ++ ·) #[]⟩ : Str) = _
    rw [show (#[] : Array Nat) = ([] : List Nat).toArray from rfl, this]
theorem op_repS : OpR X (binaryOp .Mult) rRepS := by
  intro pins s σ H x y v u Q I rx ry h
  obtain ⟨z, k, rfl, rfl, hlo, hhi, hb, q⟩ := h
  obtain ⟨t, rfl⟩ := rx
  obtain ⟨t', rfl⟩ := ry
  refine SB.mul ⟨?_, ?_, ?_⟩ fun t2 m => ⟨.str _, H, I.kept (t' := m) (fun _ _ e => e), ⟨_, rfl⟩, by rw [mul_S z k (by omega)]; exact q⟩
  · rw [decide_eq_false (by omega), decide_eq_false (by omega)]; rfl
  · intro h1 h2 h3
    rw [SX.S_len] at h3
    have h4 : (z.length : Int) * k ≤ 16777216 := by
      have e : k = (k.toNat : Int) := by omega
      rw [e, ← Int.natCast_mul]
      exact Int.ofNat_le.mpr hb
    have h5 : (z.length : Int) ≤ (2 ^ 63 - 1) / k := (Int.le_ediv_iff_mul_le (by omega)).mpr (by omega)
    omega
  · intro h1 h2
    rw [SX.S_len]
    show decide _ = false
    refine decide_eq_false ?_
    rw [sizeLine_eq]
    omega
/-- xs[::-1], xs a text -/
def tRevS (K : PySem.W.Frag) (te : TE) : TE := fun σ H Q => te σ H fun x H1 => ∃ z : List Nat, x = .str (S z) ∧ z.length ≤ 16777216 ∧ Q (.str (S z.reverse)) H1
theorem strIdx_rev (n : Nat) : Builtin.Str.strSliceIndices none none (-1) n = (List.range n).reverse := by
  show sliceRange ((n : Int) - 1) (-1) (-1) = _
  rw [PySem.W.krv_sliceRange, PySem.W.krv_range]
theorem pick_rev (z : List Nat) : ((List.range z.length).reverse.filterMap (z.toArray[·]?)) = z.reverse := by
  have := PySem.W.krv_all z.toArray
  rw [List.filterMap_reverse]
  rw [List.size_toArray] at this
  rw [this]
theorem pe_rev_str {k : Nat} {p1 p2 p3 : Pos} (he : PE X e te) : PE X (.Subscript e (.Slice none none (some (.UnaryOp .USub (.Constant (.int 1) k p1) p2)) p3) pos) (tRevS X.K te) := by
  constructor
  intro pins s σ H Q I h
  refine Subscript_ (thn (he.run pins s σ H _ I h) ?_)
  rintro v s1 ⟨x, G1, I1, e1, z, rfl, hz, q⟩
  obtain ⟨t, rfl⟩ := e1
  have hneg : PO X (some (.UnaryOp .USub (.Constant (.int 1) k p1) p2)) (tPart (tUn (rU fun i => .int (-i)) (tC (.int 1)))) := po_some (pe_un un_neg pe_int)
  refine wpAny_Slice (thn (po_none.run pins s1 σ G1 (fun o H2 => o = none ∧ H2 = G1) I1 ⟨rfl, rfl⟩) ?_)
  rintro vl s2 ⟨l, G2, I2, pl, rfl, rfl⟩
  refine thn (po_none.run pins s2 σ G2 (fun o H3 => o = none ∧ H3 = G2) I2 ⟨rfl, rfl⟩) ?_
  rintro vu s3 ⟨u, G3, I3, pu, rfl, rfl⟩
  refine thn (hneg.run pins s3 σ G3 (fun o H4 => o = some (-1) ∧ H4 = G3) I3 ⟨1, rfl, -1, rfl, rfl, rfl⟩) ?_
  rintro vs s4 ⟨o, G4, I4, ps, rfl, rfl⟩
  have I5 : Inv X pins σ G4 { s4 with heap := s4.heap.push { cls := .type "slice", data := .fields #[vl, vu, vs] } } := I4.kept (t' := s4.toks) fun b ob q => Heap.get?_push_of_some _ q
  obtain ⟨l, rfl, el⟩ := IsPart.raw pl
  obtain ⟨u, rfl, eu⟩ := IsPart.raw pu
  obtain ⟨w, rfl, ew⟩ := IsPart.raw ps
  cases l with
  | some _ => cases el
  | none =>
  cases u with
  | some _ => cases eu
  | none =>
  cases w with
  | none => cases ew
  | some w =>
  obtain ⟨wi, wt⟩ := w
  obtain rfl : wi = -1 := Option.some.inj ew
  show wpAny (model X.prog X.w) X.A (subscriptTail e (.Slice none none (some (.UnaryOp .USub (.Constant (.int 1) k p1) p2)) p3) (.str (S z) t) (.ref s4.heap.objs.size)) (EP X pins σ Q) X.xe _
  refine tail_any (ops := [.str (S z) t, .ref s4.heap.objs.size]) (typeIs_str _ _ _) F.slot_str_getitem.lookup ?_ (by with_unfolding_all rfl)
  refine wpAny_getItem_str_slice (l := none) (u := none) (st := some (-1, wt)) ⟨_, Heap.get?_push_size _ rfl, rfl, rfl⟩ rfl ?_
  unfold sliceMade
  show Made.post (if ((-1 : Int) == 1 && (Builtin.Str.strSliceIndices none none (-1) (S z).length).length == (S z).length) = true then Made.val (.str (S z) t)
    else Made.str ⟨((Builtin.Str.strSliceIndices none none (-1) (S z).length).filterMap ((S z).cps[·]?)).toArray⟩) (EP X pins σ Q) _
  rw [if_neg (by simp), strIdx_rev, SX.S_len, pick_rev]
  refine ⟨?_, .str _, G4, I5.tok _, ⟨_, rfl⟩, q⟩
  show (S z.reverse).length ≤ sizeLine
  rw [SX.S_len, List.length_reverse]
  exact sz hz
def rJoin (K : PySem.W.Frag) (x : V) (xs : List V) (H : Hp) (Q : VK) : Prop := ∃ a p, ∃ ys : List Str, x = .str a ∧ xs = [.ref p] ∧ (SqL K H p (ys.map V.str) ∨ SqT K H p (ys.map V.str)) ∧ (ys.map (·.length)).sum + ys.length * a.length ≤ 16777216 ∧ Q (.str (Txt.join a ys)) H
def tJoin (K : PySem.W.Frag) (to te : TE) : TE := tM1 (rJoin K) to te
theorem pe_joinL {apos : Pos} (ho : PE X o to) (he : PE X e te) (hs : starEach [e] X.env = [(false, eval e X.env)] := by rfl) (hbase : attributeBase o "join" X.env (eval o X.env) = eval o X.env := by rfl) (hline : (apos.endLine == pos.line) = true := by rfl) :
    PE X (.Call (.Attribute o "join" apos) [e] [] pos) (tJoin X.K to te) := pe_join ho he hs hbase hline
end

/-! ### steps -/
section
variable {K : PySem.W.Frag} {σ : L2.St} {H F : Hp} {M : Ow} {Q : VK} {g : TG} {tb : TS} {te ta tc td tl to : TE} {tt : TT} {r r' r'' : R2} {N B C : L2.St → Hp → Prop} {R : VK} {vs : List Nat} {p : Addr} {i j : Int} {z y : List Nat}
def nCk (t : V → Hp → VK → Prop) : V → Hp → VK → Prop := t
instance {tb' : TE} : St1 (tChain r r' ta tb' tc σ H Q) (ta σ H fun x H1 => tb' σ H1 fun y H2 => nCh r x y H2 Q fun H3 => tc σ H3 fun w H4 => r' y w H4 Q) := ⟨id⟩
instance {tb' : TE} : St1 (tChain3 r r' r'' ta tb' tc td σ H Q) (ta σ H fun x H1 => tb' σ H1 fun y H2 => nCh r x y H2 Q fun H3 => tc σ H3 fun z H4 => nCh r' y z H4 Q fun H5 => td σ H5 fun w H6 => r'' z w H6 Q) := ⟨id⟩
instance {go : Hp → Prop} : St1 (nCh rLeI (.int i) (.int j) H Q go) (if decide (i ≤ j) = true then go H else Q (.bl false) H) := ⟨fun h => ⟨i, j, rfl, rfl, _, rfl, h⟩⟩
instance {go : Hp → Prop} : St1 (nCh rLtI (.int i) (.int j) H Q go) (if decide (i < j) = true then go H else Q (.bl false) H) := ⟨fun h => ⟨i, j, rfl, rfl, _, rfl, h⟩⟩
instance {go : Hp → Prop} : St1 (nCh rGeI (.int i) (.int j) H Q go) (if decide (j ≤ i) = true then go H else Q (.bl false) H) := ⟨fun h => ⟨i, j, rfl, rfl, _, rfl, h⟩⟩
instance {go : Hp → Prop} : St1 (nCh rGtI (.int i) (.int j) H Q go) (if decide (j < i) = true then go H else Q (.bl false) H) := ⟨fun h => ⟨i, j, rfl, rfl, _, rfl, h⟩⟩
instance {c : Nat} : St1 (rInSign (.str ⟨#[c]⟩) (.str (S z)) H Q) (Q (.bl (decide (c ∈ z))) H) := ⟨fun h => ⟨c, S z, rfl, rfl, h⟩⟩
theorem nAddS (hl : y.length + z.length ≤ 16777216) (h : Q (.str (S (y ++ z))) H) : rAddS (.str (S y)) (.str (S z)) H Q := ⟨S y, S z, rfl, rfl, by rw [SX.S_len, SX.S_len]; exact sz hl, by rw [SX.S_cat]; exact h⟩
theorem nRepS {k : Int} (h1 : -9223372036854775808 ≤ k) (h2 : k < 9223372036854775808) (h3 : z.length * k.toNat ≤ 16777216) (h : Q (.str (S (List.replicate k.toNat z).flatten)) H) : rRepS (.str (S z)) (.int k) H Q := ⟨z, k, rfl, rfl, h1, h2, h3, h⟩
def nRevS (x : V) (H : Hp) (Q : VK) : Prop := ∃ z : List Nat, x = .str (S z) ∧ z.length ≤ 16777216 ∧ Q (.str (S z.reverse)) H
instance : St1 (tRevS K te σ H Q) (te σ H fun x H1 => nRevS x H1 Q) := ⟨id⟩
theorem nRevS_mk (hl : z.length ≤ 16777216) (h : Q (.str (S z.reverse)) H) : nRevS (.str (S z)) H Q := ⟨z, rfl, hl, h⟩
def nStr (x : V) (q : Prop) : Prop := (∃ a, x = .str a) ∧ q
instance {a : Str} {q : Prop} : St1 (nStr (.str a) q) q := ⟨fun h => ⟨⟨a, rfl⟩, h⟩⟩
instance : St1 (tJoin K to te σ H Q) (to σ H fun x H1 => nStr x (te σ H1 fun y H2 => rJoin K x [y] H2 Q)) := ⟨id⟩
theorem joinL_nil : ∀ ys : List (List Nat), TL.joinL [] ys = ys.flatten
  | [] => rfl
  | [y] => by show y = _; simp
  | y :: w :: ys => by
    have := joinL_nil (w :: ys)
    show y ++ ([] ++ TL.joinL [] (w :: ys)) = _
    rw [this]; simp
theorem nJoin_of {ys : List (List Nat)} (hx : SqL K H p ((ys.map S).map V.str) ∨ SqT K H p ((ys.map S).map V.str)) (hl : ys.flatten.length ≤ 16777216) (h : Q (.str (S ys.flatten)) H) : rJoin K (.str (S [])) [.ref p] H Q := by
  refine ⟨S [], p, ys.map S, rfl, rfl, hx, ?_, ?_⟩
  · rw [SX.lens, SX.S_len, List.length_nil, Nat.mul_zero, Nat.add_zero, ← List.length_flatten]; exact hl
  · rw [SX.join_S, joinL_nil]; exact h
theorem nJoinO {ys : List (List Nat)} {xs : List V} [hs : Hs F M H] [hm : Im M p (.lst xs)] (e : xs = ys.map fun y => V.str (S y)) (hl : ys.flatten.length ≤ 16777216) (h : Q (.str (S ys.flatten)) H) : rJoin K (.str (S [])) [.ref p] H Q :=
  nJoin_of (.inl (by rw [List.map_map, show (V.str ∘ S) = fun y => V.str (S y) from rfl, ← e]; exact SqL.of (hs.im hm))) hl h
-- parts of a text
def nSlS (x : V) (l u : Option Int) (H : Hp) (Q : VK) : Prop := rSlS x l u H Q
theorem cutS_nat {a b : Nat} : cutS (S z) (some (a : Int)) (some (b : Int)) = S ((z.take b).drop a) := by
  unfold cutS
  rw [SX.S_len, HT.sIx_nat, HT.sIx_nat]
  show (⟨((z.drop (min a z.length)).take (min b z.length - min a z.length)).toArray⟩ : Str) = S _
  have key : (z.drop (min a z.length)).take (min b z.length - min a z.length) = (z.take b).drop a := by
    rw [List.drop_take]
    apply List.ext_getElem?
    intro i
    rw [List.getElem?_take, List.getElem?_take, List.getElem?_drop, List.getElem?_drop]
    by_cases ha : a ≤ z.length
    · rw [Nat.min_eq_left ha]
      by_cases hi : i < min b z.length - a
      · rw [if_pos hi, if_pos (by omega)]
      · rw [if_neg hi]
        split
        · rw [List.getElem?_eq_none (by omega)]
        · rfl
    · rw [if_neg (by omega)]
      split
      · rw [List.getElem?_eq_none (by omega)]
      · rfl
  rw [key]
theorem cutS_to {b : Nat} : cutS (S z) none (some (b : Int)) = S (z.take b) := by
  have := cutS_nat (z := z) (a := 0) (b := b)
  rw [List.drop_zero] at this
  rw [← this]
  unfold cutS
  rw [HT.sIx_none, HT.sIx_nat, HT.sIx_nat, Nat.zero_min]
theorem cutS_from {a : Nat} : cutS (S z) (some (a : Int)) none = S (z.drop a) := by
  have := cutS_nat (z := z) (a := a) (b := z.length)
  rw [List.take_length] at this
  rw [← this]
  unfold cutS
  rw [HT.sIx_none, HT.sIx_nat, HT.sIx_nat, SX.S_len, Nat.min_self]
theorem nCutS {l u : Option Int} {w : List Nat} (hl : z.length ≤ 16777216) (e : cutS (S z) l u = S w) (h : Q (.str (S w)) H) : rSlS (.str (S z)) l u H Q := ⟨S z, rfl, by rw [SX.S_len]; exact sz hl, by rw [e]; exact h⟩
theorem nLnT (hl : z.length ≤ 16777216) (h : Q (.int (z.length : Int)) H) : rLn K [.str (S z)] H Q := nLnS (z := S z) (by rw [SX.S_len]; exact hl) (by rw [SX.S_len]; exact h)
theorem nIxTx {c n : Nat} (hl : z.length ≤ 16777216) (ha : z[n]? = some c) (h : Q (.str (S [c])) H) : rIx K (.str (S z)) (.int (n : Int)) H Q := nIxS (z := S z) (by rw [SX.S_len]; exact hl) (atI_nat ha) h
theorem nTruS {q : Bool → Prop} (hl : z.length ≤ 16777216) (h : q (!z.isEmpty)) : nTru K (.str (S z)) H q := ⟨!z.isEmpty, ⟨by rw [SX.S_len]; exact sz hl, by rw [SX.S_len]; cases z with
  | nil => rfl
  | cons a b => exact (bne_iff_ne.mpr (by rw [List.length_cons]; omega)).symm⟩, h⟩
-- walks over a text
def nSeqS (x : V) (H1 : Hp) (q : It → Hp → Prop) : Prop := ∃ z, x = .str z ∧ q (Its z) H1
instance : St1 (tFor (iStr te) g tb (En N R B C) σ H) (te σ H fun x H1 => nSeqS x H1 fun J H1 => nLoop g tb N R σ J H1) := ⟨id⟩
instance {te' : TE} : St1 (tLc (iStr tl) g tt te' vs σ H Q) (tl σ H fun x H1 => nSeqS x H1 fun J H1 => nComp g tt te' vs σ Q J H1) := ⟨id⟩
theorem sign_of {i c : Nat} (h : (S z).cps[i]? = some c) : z[i]? = some c := by simpa using h
theorem nCompS {σw : L2.St} {te' : TE} (I : Nat → Cv) [hs : Hs F M H] [hw : Wp σ vs σw] (h0 : I 0 [] F M)
    (step : ∀ i c acc D F' M' H', z[i]? = some c → Sm F F' → Hs F' ((D, HO.lst acc) :: M') H' → I i acc F' M' → CvT g tt te' vs σw F D (I (i + 1)) (.str (S [c])) H')
    (done : ∀ D acc F' M' H', F D = none → Sm F F' → Hs F' ((D, HO.lst acc) :: M') H' → I z.length acc F' M' → Q (.ref D) H') : nSeqS (.str (S z)) H fun J H1 => nComp g tt te' vs σ Q J H1 := by
  refine ⟨S z, rfl, fun D hD => ?_⟩
  have e : (S z).cps.size = z.length := by simp
  refine lc_it (walk_str (z := S z)) (fun i => CvH F D (I i)) ⟨F, M, [], Same.refl F, hs.new hD, h0⟩ (fun _ _ _ _ => trivial) ?_ ?_
  · rintro i x H1 H' hi ⟨F', M', acc, e', hs', p⟩ ⟨rfl, c, hc, rfl⟩
    have := step i c acc D F' M' _ (sign_of hc) ⟨e'⟩ hs' p
    rw [← hw.h] at this; exact this
  · rintro H' ⟨F', M', acc, e', hs', p⟩
    rw [e] at p
    exact done D acc F' M' H' (hs.free hD) ⟨e'⟩ hs' p
theorem nLoopS (I : Nat → Iv) [hs : Hs F M H] (h0 : I 0 σ F M)
    (step : ∀ i c σ' F' M' H', z[i]? = some c → Sm F F' → Hs F' M' H' → I i σ' F' M' → g (.str (S [c])) σ' H' fun σ2 H2 => tb (En (IvH F (I (i + 1))) R N (IvH F (I (i + 1)))) σ2 H2)
    (done : ∀ σ' F' M' H', Sm F F' → Hs F' M' H' → I z.length σ' F' M' → N σ' H') : nSeqS (.str (S z)) H fun J H1 => nLoop g tb N R σ J H1 := by
  refine ⟨S z, rfl, ?_⟩
  have e : (S z).cps.size = z.length := by simp
  refine for_it (D := En N R N N) (walk_str (z := S z)) (fun i => IvH F (I i)) ⟨F, M, Same.refl F, hs, h0⟩ (fun _ _ _ _ _ => trivial) ?_ ?_
  · rintro i x σ' H1 H' hi ⟨F', M', e', hs', p⟩ ⟨rfl, c, hc, rfl⟩
    exact step i c σ' F' M' _ (sign_of hc) ⟨e'⟩ hs' p
  · rintro σ' H' ⟨F', M', e', hs', p⟩
    rw [e] at p
    exact done σ' F' M' H' ⟨e'⟩ hs' p
end
end Sh


set_option Elab.async false
set_option linter.all false
set_option maxRecDepth 100000
set_option maxHeartbeats 4000000
/-! # Errors of the program: raised, passed on, caught, asked; what never happens -/
namespace Sh
open PySem PySem.Spec PyProof.Rows L2
open SX (S)

/-! ### what is never reached -/
def tDead : TS := fun _ _ _ => False
theorem ps_dead {X : Cx} {s : Stmt} : PS X s tDead := by
  constructor
  intro _ _ _ _ _ _ h
  exact h.elim
/-! ### calls that may raise -/
theorem passNo {P : Program} {w : World} {X : Cx} (σ : L2.St) : PassesAt (L2.CX P w) X σ (fun _ _ _ => False) := by
  intro _ _ _ _ _ _ h
  obtain ⟨_, _, _, _, _, _, _, _, _, _, _, _, h⟩ := h
  exact h.elim
section
variable {X : Cx} {CX : CXT} {k : Nat} {ps : List Str} {sp : Sp} {E : L2.St → XK} {x m C : Str} {p pos apos : Pos} {e o : Expr} {es : List Expr} {ta : TE} {t : TA}
theorem noVals {ds : List Value} (h : Vals ([] : List V) ds) : ds = [] := by cases h; rfl
theorem pe_fnE (G : Fn X.prog X.w X.K X.mg X.base CX x k ps [] sp) (hr : Room k X.A) (hx : ∀ σ, PassesAt CX X σ (E σ)) (ha : PA X (e :: es) t) (hg : Gl X x := by rfl) (hdb : (x == ("__debug__" : Str)) = false := by decide)
    (he : starEach (e :: es) X.env = (false, eval e X.env) :: starEach es X.env := by rfl) (hpl : (backTo pos (starEach es X.env)).any (·.1) = false := by rfl) : PE X (.Call (.Name x p) (e :: es) [] pos) (tCallS sp E t) := by
  obtain ⟨fd, ds, F, b, v⟩ := G.fn
  cases noVals v
  exact pe_callS F hr hg G.gl G.kp b hx ha hdb he hpl
/-- a method's call that may raise -/
def tMethE (C : Addr) (m : Str) (sp : Sp) (E : L2.St → XK) (ta : TE) (t : TA) : TE := fun σ H Q => ta σ H fun x H1 => nMeth C m x H1 (t σ H1 fun vs H2 => sp (x :: vs) H2 Q (E σ))
theorem pe_meE {pl : Sem Bool} (G : Me X.prog X.w X.K X.mg X.base CX C m k ps [] sp) (ho : PE X o ta) (hr : Room k X.A) (hx : ∀ σ, PassesAt CX X σ (E σ)) (ha : PA X (e :: es) t)
    (hst : starEach (e :: es) X.env = (false, eval e X.env) :: starEach es X.env := by rfl) (hpl : (backTo pos (starEach es X.env)).any (·.1) = false := by rfl)
    (ht : eval (.Call (.Attribute o m apos) (e :: es) [] pos) X.env = (do
      let ov ← eval o X.env
      standAt apos.atName
      let (f, first) ← holding [ov] (getMethod ov m pl)
      callWith pos f first (backTo pos (starEach (e :: es) X.env)) (backToKw pos (keywordEach [] X.env))) := by rfl) :
    PE X (.Call (.Attribute o m apos) (e :: es) [] pos) (tMethE (He.ga X.K C) m sp E ta t) := by
  obtain ⟨fd, ds, F, b, v⟩ := G.fn
  cases noVals v
  constructor
  intro pins s σ H Q I h
  refine PySem.W.methodCall_KW (thn (ho.run pins s σ H _ I h) ?_) ht
  rintro u s1 ⟨x1, G1, I1, e1, a, dx, fs, rfl, ea, hl, q⟩
  cases e1
  refine getmeth_ok I1 ea G.cl G.mt hl (PySem.W.callWith_K I1.ok.mod.kin G.mt.kp (thn (ha.run pos pins s1 σ G1 _ I1 q) ?_) hst hpl)
  rintro us s2 ⟨vs, G2, I2, r2, q2⟩
  exact ⟨I2.kIn, run_fnS F hr b (hx σ) I2 (vs := V.ref a :: vs) (.cons rfl r2) q2⟩
/-- a new instance whose __init__ may raise -/
def tMakeE (C : Addr) (sp : Sp) (E : L2.St → XK) (t : TA) : TE := fun σ H Q => t σ H fun vs H1 => nMake C sp (E σ) vs H1 Q
theorem pe_mkrE (G : Mkr X.prog X.w X.K X.mg X.base CX C k ps [] sp) (hr : Room (k + 1) X.A) (hx : ∀ σ, PassesAt CX X σ (E σ)) (ha : PA X (e :: es) t) (hg : Gl X C := by rfl) (hdb : (C == ("__debug__" : Str)) = false := by decide)
    (he : starEach (e :: es) X.env = (false, eval e X.env) :: starEach es X.env := by rfl) (hpl : (backTo pos (starEach es X.env)).any (·.1) = false := by rfl) : PE X (.Call (.Name C p) (e :: es) [] pos) (tMakeE (He.ga X.K C) sp E t) := by
  obtain ⟨fd, ds, F, b, v⟩ := G.fn
  cases noVals v
  constructor
  intro pins s σ H Q I h
  refine wpAny_Call_Name_kw (ld_glob I hg G.gl ?_ hdb)
  refine PySem.W.callWith_K (h₀ := X.base) I.ok.mod.kin G.mkk.kp (thn (ha.run pos pins s σ H _ I h) ?_) he hpl
  rintro us s1 ⟨vs, G1, I1, rv, q⟩
  refine ⟨I1.kIn, ?_⟩
  have h2 := q (s1.heap.objs.size + 1) s1.heap.objs.size (I1.hok.fresh (Nat.le_succ _)) (I1.hok.fresh (Nat.le_refl _)) (Nat.ne_of_lt (Nat.lt_succ_self _))
  have J := Inv.made (C := He.ga X.K C) I1
  have rr : Vals (V.ref (s1.heap.objs.size + 1) :: vs) (Value.ref (s1.heap.objs.size + 1) :: us) := .cons rfl rv
  have bb := b _ (Value.ref (s1.heap.objs.size + 1) :: us) J.kIn (by
    rw [List.append_nil, ← rr.length]
    exact F.len _ _ _ _ h2)
  rw [List.append_nil] at bb
  have go := F.run _ X.stack _ _ ⟨Value.ref (s1.heap.objs.size + 1) :: us, []⟩ _ _ _ (E σ) (hr.make (He.ga X.K C) us []) (J.env0.make (He.ga X.K C) us []) bb rr h2
  refine wpAny_call (make_map I1.kIn G.mkk.makes G.mkk.init (beq_iff_eq.mp G.mkk.fn) (codeAny_mono go ?_))
  intro r s2 hr2
  match r, hr2 with
  | .error er, hr2 => exact hx σ pins _ _ er s2 J hr2
  | .ok (.ret u), hr2 =>
    obtain ⟨v, G3, J3, r3, rfl, q3⟩ := J.after hr2
    exact ⟨r3, .ref (s1.heap.objs.size + 1), G3, J3, rfl, q3⟩
  | .ok .next, hr2 => exact hr2.elim
  | .ok .brk, hr2 => exact hr2.elim
  | .ok .cont, hr2 => exact hr2.elim
end

/-! ### a class of errors, with fields that its __init__ keeps -/
def oexB (K : PySem.W.Frag) (C : Addr) : Bool := match K.lookup C with
  | some ⟨oc, _, .cls cd, sl⟩ => decide (oc = .type "type") && (match cd.mro, sl.toList with
    | .ref c :: bm, [_, _, _, _, some (.builtin n), _] => decide (c = C) && (HandSPX.refsVE bm && (cd.hasDict && (!cd.hasDel && decide (n = "ValueError.__new__"))))
    | _, _ => false)
  | _ => false
theorem oexB_ok {K : PySem.W.Frag} {C : Addr} (h : oexB K C = true) : ∃ nm q N bs bm sn sub ab col dd k0 k1 k2 k3 k5, K.lookup C = some (excClassObj nm q C N bs bm true sn sub ab col dd k0 k1 k2 k3 k5 "ValueError.__new__") ∧ HandSPX.refsVE bm = true := by
  unfold oexB at h
  split at h
  · rename_i oc dd cd sl ho
    rw [Bool.and_eq_true] at h
    obtain ⟨h1, h2⟩ := h
    have e1 : oc = .type "type" := of_decide_eq_true h1
    subst e1
    split at h2
    · rename_i c bm k0 k1 k2 k3 n k5 hm hsl
      simp only [Bool.and_eq_true, Bool.not_eq_true', decide_eq_true_eq] at h2
      obtain ⟨rfl, h3, h4, h5, rfl⟩ := h2
      obtain ⟨f1, f2, f3, f4, f5, f6, f7, f8, f9, f10, f11⟩ := cd
      dsimp only at hm h4 h5
      subst hm h4 h5
      obtain ⟨l⟩ := sl
      dsimp only at hsl
      subst hsl
      exact ⟨_, _, _, _, _, _, _, _, _, _, _, _, _, _, _, ho, h3⟩
    · cases h2
  · cases h
/-- .. its facts: fields ns; what isinstance says of HeldError-like classes is asked apart -/
def exB (C : Str) (ns : List Str) (K : PySem.W.Frag) : Bool :=
  oexB K (He.ga K C) && (He.eqO (PySem.W.findIn K (.ref (He.ga K C)) "__setattr__") (some (some (.builtin "object.__setattr__"))) && (xfB K (He.ga K C) && (decide (PySem.W.typeIn K (.ref (He.ga K C)) = some (.type "type")) && (PySem.W.keepIn K (.ref (He.ga K C)) &&
  (ns.all fun f => He.eqO (PySem.W.findIn K (.ref (He.ga K C)) f) (some none))))))
/-- a class of errors with an __init__ of its own -/
structure Exk (K : PySem.W.Frag) (C : Str) (ns : List Str) : Prop where
  ox : OexC K (He.ga K C)
  xf : XfC K (He.ga K C)
  no : ∀ f ∈ ns, PySem.W.findIn K (.ref (He.ga K C)) f = some none
theorem exB_ok {K : PySem.W.Frag} {C : Str} {ns : List Str} (h : exB C ns K = true) : Exk K C ns := by
  obtain ⟨h1, h⟩ := He.ba h
  obtain ⟨h2, h⟩ := He.ba h
  obtain ⟨h3, h⟩ := He.ba h
  obtain ⟨h4, h⟩ := He.ba h
  obtain ⟨h5, h6⟩ := He.ba h
  have x := xfB_ok h3
  exact ⟨⟨oexB_ok h1, He.eqO_ok h2, x.exC, of_decide_eq_true h4, h5⟩, x, fun f hf => He.eqO_ok (List.all_eq_true.mp h6 f hf)⟩
def exiB (C : Str) (K : PySem.W.Frag) : Bool := He.eqO (PySem.W.findIn K (.ref (He.ga K C)) "__init__") (some (some (.ref (He.ma K (He.ga K C) "__init__")))) && decide (PySem.W.typeIn K (.ref (He.ma K (He.ga K C) "__init__")) = some (.type "function"))
structure Exi (P : Program) (w : World) (K : PySem.W.Frag) (mg : Str → Option Value) (base : Heap) (CX : CXT) (C : Str) (k : Nat) (ps : List Str) (dvs : List V) (sp : Sp) : Prop where
  ox : OexC K (He.ga K C)
  fn : ∃ fd ds, FnOk P w K mg base CX k (He.ma K (He.ga K C) "__init__") fd ps sp ∧ Binds K fd ps ds ∧ Vals dvs ds
  ic : PySem.W.findIn K (.ref (He.ga K C)) "__init__" = some (some (.ref (He.ma K (He.ga K C) "__init__")))
  ti : PySem.W.typeIn K (.ref (He.ma K (He.ga K C) "__init__")) = some (.type "function")
  gl : mg C = some (.ref (He.ga K C))
theorem exiB_ok {C : Str} {K : PySem.W.Frag} (h : exiB C K = true) : PySem.W.findIn K (.ref (He.ga K C)) "__init__" = some (some (.ref (He.ma K (He.ga K C) "__init__"))) ∧ PySem.W.typeIn K (.ref (He.ma K (He.ga K C) "__init__")) = some (.type "function") := by
  obtain ⟨h1, h2⟩ := He.ba h
  exact ⟨He.eqO_ok h1, of_decide_eq_true h2⟩
/-! __init__: one field, two fields -/
def sp_exi1 (K : PySem.W.Frag) (C : Addr) (f : Str) : Sp := fun vs H Q _ => ∃ (a : Addr) (y : V), vs = [.ref a, y] ∧ OexC K C ∧ PySem.W.findIn K (.ref C) f = some none ∧ H a = some (exo a C none) ∧
  ∀ dx, H dx = none → dx ≠ a → Q .non (upd (upd H dx (exd dx [(f, y)])) a (exo a C (some dx)))
def sp_exi2 (K : PySem.W.Frag) (C : Addr) (f g : Str) : Sp := fun vs H Q _ => ∃ (a : Addr) (y z : V), vs = [.ref a, y, z] ∧ OexC K C ∧ PySem.W.findIn K (.ref C) f = some none ∧ PySem.W.findIn K (.ref C) g = some none ∧ H a = some (exo a C none) ∧
  ∀ dx, H dx = none → dx ≠ a → Q .non (upd (upd (upd H dx (exd dx [(f, y)])) a (exo a C (some dx))) dx (exd dx [(g, z), (f, y)]))
section
variable {K : PySem.W.Frag} {C : Addr} {f g : Str}
theorem pure_exi1 {n1 n2 : Str} (vs : List V) (H : Hp) (Q : VK) (E : XK) (h : sp_exi1 K C f vs H Q E) : tOst K f (tVar 0) (tVar 1) { nx := fun _ H' => Q .non H', rt := Q } (start [n1, n2] vs) H := by
  obtain ⟨a, y, rfl, hc, hf, ha, k⟩ := h
  exact ⟨_, rfl, _, rfl, a, C, rfl, hc, hf, .inl ⟨ha, k⟩⟩
theorem pure_exi2 {n1 n2 n3 : Str} (vs : List V) (H : Hp) (Q : VK) (E : XK) (h : sp_exi2 K C f g vs H Q E) : tSeq (tOst K f (tVar 0) (tVar 1)) (tOst K g (tVar 0) (tVar 2)) { nx := fun _ H' => Q .non H', rt := Q } (start [n1, n2, n3] vs) H := by
  obtain ⟨a, y, z, rfl, hc, hf, hg, ha, k⟩ := h
  refine ⟨_, rfl, _, rfl, a, C, rfl, hc, hf, .inl ⟨ha, fun dx h1 h2 => ?_⟩⟩
  refine ⟨_, rfl, _, rfl, a, C, rfl, hc, hg, .inr ⟨dx, [(f, y)], upd_same, ?_, by simp, k dx h1 h2⟩⟩
  rw [upd_ne h2]; exact upd_same
end
/-! ### raise C(e, ..) -/
def tRaiseO (C : Addr) (sp : Sp) (E : XK) (ta : TA) : TS := fun _ σ H => tMkO C sp [] ta σ H fun cls d H' => E cls d H'
section
variable {X : Cx} {CX : CXT} {k : Nat} {ps : List Str} {sp : Sp} {E : XK} {C : Str} {p pos pos2 : Pos} {e : Expr} {es : List Expr} {ta : TA}
theorem ps_raiseO (G : Exi X.prog X.w X.K X.mg X.base CX0 C k ps [] sp) (hr : Room (k + 1) X.A) (tk : Takes X fun cls d _ H => E cls d H) (ha : PA X (e :: es) ta) (hc : X.calm = true := by rfl) (hg : Gl X C := by rfl) (hdb : (C == ("__debug__" : Str)) = false := by decide)
    (he : starEach (e :: es) X.env = (false, eval e X.env) :: starEach es X.env := by rfl) (hpl : (backTo pos (starEach es X.env)).any (·.1) = false := by rfl) : PS X (.Raise (some (.Call (.Name C p) (e :: es) [] pos)) none pos2) (tRaiseO (He.ga X.K C) sp E ta) := by
  obtain ⟨fd, ds, F, b, v⟩ := G.fn
  exact ps_raise hc tk (pmk_oex G.ox G.ic G.ti F hr b v pass0 hg G.gl ha hdb he hpl)
end
/-- raise C(), C a class of errors without an __init__ of its own -/
def tRaiseC (C : Addr) (E : XK) : TS := fun _ _ H => E (.ref C) none H
structure Exo (K : PySem.W.Frag) (mg : Str → Option Value) (C : Str) : Prop where
  q : PySem.W.excIn K (He.ga K C) He.veBase "ValueError.__new__" = true
  kp : PySem.W.keepIn K (.ref (He.ga K C)) = true
  sb : PySem.W.subIn K (.ref (He.ga K C)) (.type "BaseException") = some true
  ty : PySem.W.typeIn K (.ref (He.ga K C)) = some (.type "type")
  gl : mg C = some (.ref (He.ga K C))
section
variable {X : Cx} {E : XK} {C : Str} {p pos pos2 : Pos}
theorem pmk_own0 (G : Exo X.K X.mg C) (hg : Gl X C) (hdb : (C == ("__debug__" : Str)) = false) : PMk X (.Call (.Name C p) [] [] pos) (fun _ H Q => Q (.ref (He.ga X.K C)) none H) := by
  intro pins s σ H Q I h
  refine wpAny_Call_Name_kw (ld_glob I hg G.gl ?_ hdb)
  refine PySem.W.callWith_K0 I.kIn G.kp ?_
  obtain ⟨bm, N, nm, qn, bs, hdct, sn, sub, ab, col, dd, k0, k1, k2, k3, k5, mN, hC, hN, hni, T⟩ := exc_obj I.kIn G.q
  refine wpAny_call_exc_subT F.excBase_ValueError T hC hN hni (fun h' e hm => ?_) (Nat.zero_le _)
  exact mk_of I hm (raises_own G.sb G.ty) h (I.hok.gone hm.new)
theorem ps_raiseC (G : Exo X.K X.mg C) (tk : Takes X fun cls d _ H => E cls d H) (hc : X.calm = true := by rfl) (hg : Gl X C := by rfl) (hdb : (C == ("__debug__" : Str)) = false := by decide) : PS X (.Raise (some (.Call (.Name C p) [] [] pos)) none pos2) (tRaiseC (He.ga X.K C) E) :=
  ps_raise hc tk (pmk_own0 G hg hdb)
end
/-! ### caught -/
section
variable {X : Cx} {a : Addr} {oe : Obj} {cls : Value} {d : Option Addr} {pn : List (Addr × Obj)}
/-- isinstance(e, c), e the error that the suite holds, of the class D, with fields -/
def rIsX (K : PySem.W.Frag) (D : Addr) (a : Addr) (cls : Value) (d : Option Addr) : List V → Hp → VK → Prop := fun xs H Q => cls = .ref D ∧ ∃ (dd : Addr) (fs : List (Str × V)) (c : V) (cv : Value) (b : Bool), d = some dd ∧ H dd = some (.xd fs) ∧ xs = [.ref a, c] ∧
  (∀ u, RelV c u → u = cv) ∧ PySem.W.kitOne K (.ref D) cv = some b ∧ Q (.bl b) H
theorem call_isX {D : Addr} (C : ExcC X.K D) (hz : Zc cls d oe) (hf : ∃ vs, oe.data = .fields vs) : CallR (X.suite a ((a, oe) :: pn)) (.builtin "isinstance") (rIsX X.K D a cls d) := by
  intro pins s σ H xs us Q I r h
  obtain ⟨rfl, dd, fs, c, cv, b, rfl, hd, rfl, hcv, hk, q⟩ := h
  obtain ⟨u1, u2, rfl, r1, r2⟩ := vals2 r
  cases r1
  cases hcv _ r2
  obtain ⟨hget, -⟩ := I.pin (a, oe) (List.mem_append.mpr (.inl List.mem_cons_self))
  obtain ⟨vs, hv⟩ := hf
  obtain ⟨mA, hns, -⟩ := (show ObjOk X.prog X.w H s.heap dd (.xd fs) from I.hok dd _ hd)
  obtain ⟨od, ho, -⟩ := lookIn_ns hns
  have J : PySem.W.InstAt s.heap a oe D (some od) := ⟨hget, hz.1, by unfold PySem.W.notCls; rw [hv] <;> rfl, by rw [hz.2]; exact ho⟩
  have hcl : (PySem.W.clsIn X.K D).isSome = true := by
    obtain ⟨cd, hc, -⟩ := PySem.W.any_some C.hd
    rw [hc] <;> rfl
  exact PySem.W.kia_one (PySem.W.kitx_exc hcl C.hg C.hk C.hs C.ha C.hn C.ht C.hm) I.kIn J hk (fun z => nomatch z) fun tk => ⟨.bl b, H, I.kept (t' := tk) fun _ _ z => z, rfl, q⟩
end
def excB (K : PySem.W.Frag) (D : Addr) : Bool := He.eqO (PySem.W.findIn K (.ref D) "__class__") (some (some (.builtin "object.__class__"))) &&
  (He.eqO (PySem.W.specialIn K (.builtin "object.__class__") "__get__") (some (some (.builtin "getset_descriptor.__get__"))) && (decide (PySem.W.takesIn K (.builtin "object.__class__") = some true) && decide (PySem.W.mroIn K D (.type "object") = some true)))
/-- what a clause asks of the class C: it is caught as itself; isinstance of the classes cs, of built-in ones ts -/
def cauB (C : Str) (cs : List Str) (ts : List String) (K : PySem.W.Frag) : Bool := decide (PySem.W.exmOne K (.ref (He.ga K C)) (.ref (He.ga K C)) = some true) && (excB K (He.ga K C) && ((cs.all fun c => decide (PySem.W.kitOne K (.ref (He.ga K C)) (.ref (He.ga K c)) = some true)) &&
  ts.all fun t => decide (PySem.W.kitOne K (.ref (He.ga K C)) (.type t) = some true)))
structure Cau (K : PySem.W.Frag) (C : Str) (cs : List Str) (ts : List String) : Prop where
  xm : PySem.W.exmOne K (.ref (He.ga K C)) (.ref (He.ga K C)) = some true
  xc : ExcC K (He.ga K C)
  cs : ∀ c ∈ cs, PySem.W.kitOne K (.ref (He.ga K C)) (.ref (He.ga K c)) = some true
  ts : ∀ t ∈ ts, PySem.W.kitOne K (.ref (He.ga K C)) (.type t) = some true
theorem cauB_ok {K : PySem.W.Frag} {C : Str} {ns cs : List Str} {ts : List String} (x : Exk K C ns) (h : cauB C cs ts K = true) : Cau K C cs ts := by
  obtain ⟨h1, h⟩ := He.ba h
  obtain ⟨h2, h⟩ := He.ba h
  obtain ⟨h3, h4⟩ := He.ba h
  obtain ⟨z1, z⟩ := He.ba h2
  obtain ⟨z2, z⟩ := He.ba z
  obtain ⟨z3, z4⟩ := He.ba z
  exact ⟨of_decide_eq_true h1, ⟨x.xf.ga, x.xf.gg, x.xf.exC, x.xf.hdC, He.eqO_ok z1, He.eqO_ok z2, of_decide_eq_true z3, of_decide_eq_true z4⟩, fun c hc => of_decide_eq_true (List.all_eq_true.mp h3 c hc), fun t ht => of_decide_eq_true (List.all_eq_true.mp h4 t ht)⟩

/-! ### steps -/
section
variable {K : PySem.W.Frag} {σ σ' : L2.St} {H F : Hp} {M : Ow} {Q : VK} {ta te : TE} {tr : TA} {N B C' : L2.St → Hp → Prop} {R : VK} {sp : Sp} {E : L2.St → XK} {E1 : XK} {C : Addr} {m f g : Str} {y z : V}
instance : St1 (tCallS sp E tr σ H Q) (tr σ H fun vs H1 => sp vs H1 Q (E σ)) := ⟨id⟩
instance : St1 (tMethE C m sp E ta tr σ H Q) (ta σ H fun x H1 => nMeth C m x H1 (tr σ H1 fun vs H2 => sp (x :: vs) H2 Q (E σ))) := ⟨id⟩
instance : St1 (tMakeE C sp E tr σ H Q) (tr σ H fun vs H1 => nMake C sp (E σ) vs H1 Q) := ⟨id⟩
instance {D : Ends} : St1 (tRaiseC C E1 D σ H) (E1 (.ref C) none H) := ⟨id⟩
def nRai (C : Addr) (sp : Sp) (E : XK) (vs : List V) (H1 : Hp) : Prop := vs.length ≤ 1000 ∧ ∀ a, H1 a = none → sp (.ref a :: (vs ++ [])) (upd H1 a (exo a C none))
  (fun v H2 => v = .non ∧ ∃ (d : Addr) (fs : List (Str × V)), H2 a = some (exo a C (some d)) ∧ H2 d = some (exd d fs) ∧ H1 d = none ∧ E (.ref C) (some d) (upd (del H2 a) d (.xd fs))) (fun _ _ _ => False)
instance : St1 (tRaiseO C sp E1 tr (En N R B C') σ H) (tr σ H fun vs H1 => nRai C sp E1 vs H1) := ⟨id⟩
theorem del_two {H : Hp} {a dx : Addr} {o1 o2 o3 : HO} (ha : H a = none) (hd : dx ≠ a) : upd (del (upd (upd H dx o1) a o2) a) dx o3 = upd H dx o3 := by
  funext b
  by_cases h : b = dx
  · rw [h, upd_same, upd_same]
  · rw [upd_ne h, upd_ne h]
    by_cases h2 : b = a
    · rw [h2, del_same, ha]
    · rw [del_ne h2, upd_ne h2, upd_ne h]
theorem del_three {H : Hp} {a dx : Addr} {o1 o2 o3 o4 : HO} (ha : H a = none) (hd : dx ≠ a) : upd (del (upd (upd (upd H dx o1) a o2) dx o4) a) dx o3 = upd H dx o3 := by
  funext b
  by_cases h : b = dx
  · rw [h, upd_same, upd_same]
  · rw [upd_ne h, upd_ne h]
    by_cases h2 : b = a
    · rw [h2, del_same, ha]
    · rw [del_ne h2, upd_ne h, upd_ne h2, upd_ne h]
theorem nRai1 {Cn : Str} {ns : List Str} (xk : Exk K Cn ns) (hf : f ∈ ns) [hs : Hs F M H] (h : ∀ d F' H', F d = none → Sm F F' → Hs F' M H' → Fz F' d (.xd [(f, y)]) → E1 (.ref (He.ga K Cn)) (some d) H') : nRai (He.ga K Cn) (sp_exi1 K (He.ga K Cn) f) E1 [y] H := by
  refine ⟨by simp, fun a ha => ⟨a, y, rfl, xk.ox, xk.no f hf, upd_same, fun dx h1 h2 => ⟨rfl, dx, [(f, y)], upd_same, ?_, ?_, ?_⟩⟩⟩
  · rw [upd_ne h2]; exact upd_same
  · rw [upd_ne h2] at h1; exact h1
  · rw [upd_ne h2] at h1
    have e : upd (del (upd (upd (upd H a (exo a (He.ga K Cn) none)) dx (exd dx [(f, y)])) a (exo a (He.ga K Cn) (some dx))) a) dx (.xd [(f, y)]) = upd H dx (.xd [(f, y)]) := by
      funext b
      by_cases h : b = dx
      · rw [h, upd_same, upd_same]
      · rw [upd_ne h, upd_ne h]
        by_cases h3 : b = a
        · rw [h3, del_same, ha]
        · rw [del_ne h3, upd_ne h3, upd_ne h, upd_ne h3]
    rw [e]
    exact h dx _ _ (hs.free h1) ⟨same_upd (hs.free h1)⟩ (hs.newF h1) ⟨upd_same⟩
theorem nRai2 {Cn : Str} {ns : List Str} (xk : Exk K Cn ns) (hf : f ∈ ns) (hg : g ∈ ns) [hs : Hs F M H] (h : ∀ d F' H', F d = none → Sm F F' → Hs F' M H' → Fz F' d (.xd [(g, z), (f, y)]) → E1 (.ref (He.ga K Cn)) (some d) H') : nRai (He.ga K Cn) (sp_exi2 K (He.ga K Cn) f g) E1 [y, z] H := by
  refine ⟨by simp, fun a ha => ⟨a, y, z, rfl, xk.ox, xk.no f hf, xk.no g hg, upd_same, fun dx h1 h2 => ⟨rfl, dx, [(g, z), (f, y)], ?_, upd_same, ?_, ?_⟩⟩⟩
  · rw [upd_ne (Ne.symm h2)]; exact upd_same
  · rw [upd_ne h2] at h1; exact h1
  · rw [upd_ne h2] at h1
    have e : upd (del (upd (upd (upd (upd H a (exo a (He.ga K Cn) none)) dx (exd dx [(f, y)])) a (exo a (He.ga K Cn) (some dx))) dx (exd dx [(g, z), (f, y)])) a) dx (.xd [(g, z), (f, y)]) = upd H dx (.xd [(g, z), (f, y)]) := by
      funext b
      by_cases h : b = dx
      · rw [h, upd_same, upd_same]
      · rw [upd_ne h, upd_ne h]
        by_cases h3 : b = a
        · rw [h3, del_same, ha]
        · rw [del_ne h3, upd_ne h, upd_ne h3, upd_ne h, upd_ne h3]
    rw [e]
    exact h dx _ _ (hs.free h1) ⟨same_upd (hs.free h1)⟩ (hs.newF h1) ⟨upd_same⟩
theorem nAs {Cn : Str} {cs : List Str} {tys : List String} {i : Nat} {d : Option Addr} {ts : Addr → Value → Option Addr → TS} {W : WX} (cu : Cau K Cn cs tys) [e : Hs F M H]
    (h : ∀ a, ts a (.ref (He.ga K Cn)) d (En (fun σ' H' => N (σ'.set i none) H') R (fun σ' H' => B (σ'.set i none) H') (fun σ' H' => C' (σ'.set i none) H')) (σ.set i (some (.ref a))) H) : wAs K (.ref (He.ga K Cn)) i ts W (En N R B C') (.ref (He.ga K Cn)) d σ H :=
  ⟨true, cu.xm, fun _ a _ => h a, fun z => by cases z⟩
theorem nIsC {Cn c : Str} {cs : List Str} {tys : List String} {a dd : Addr} {fs : List (Str × V)} (cu : Cau K Cn cs tys) (hc : c ∈ cs) [hs : Hs F M H] [hd : Fz F dd (.xd fs)] (h : Q (.bl true) H) : rIsX K (He.ga K Cn) a (.ref (He.ga K Cn)) (some dd) [.ref a, .ref (He.ga K c)] H Q :=
  ⟨rfl, dd, fs, _, _, true, rfl, hs.f hd.h, rfl, fun u hu => by cases hu; rfl, cu.cs c hc, h⟩
theorem nIsT {Cn : Str} {t : String} {cs : List Str} {tys : List String} {a dd : Addr} {fs : List (Str × V)} (cu : Cau K Cn cs tys) (hc : t ∈ tys) [hs : Hs F M H] [hd : Fz F dd (.xd fs)] (h : Q (.bl true) H) : rIsX K (He.ga K Cn) a (.ref (He.ga K Cn)) (some dd) [.ref a, .ty t] H Q :=
  ⟨rfl, dd, fs, _, _, true, rfl, hs.f hd.h, rfl, fun u hu => by cases hu; rfl, cu.ts t hc, h⟩
def nXf (a : Addr) (cls : Value) (d : Option Addr) (C : Addr) (f : Str) (x : V) (H1 : Hp) (Q : VK) : Prop := x = .ref a ∧ cls = .ref C ∧ ∃ (dd : Addr) (fs : List (Str × V)) (v : V), d = some dd ∧ H1 dd = some (.xd fs) ∧ fs.lookup f = some v ∧ Q v H1
instance {a : Addr} {cls : Value} {d : Option Addr} : St1 (tXf a cls d C f te σ H Q) (te σ H fun x H1 => nXf a cls d C f x H1 Q) := ⟨id⟩
theorem nXf_mk {a dd : Addr} {fs : List (Str × V)} {v : V} [hs : Hs F M H] [hd : Fz F dd (.xd fs)] (hl : fs.lookup f = some v) (h : Q v H) : nXf a (.ref C) (some dd) C f (.ref a) H Q := ⟨rfl, rfl, dd, fs, v, rfl, hs.f hd.h, hl, h⟩
end
end Sh


set_option Elab.async false
set_option linter.all false
set_option maxRecDepth 100000
set_option maxHeartbeats 4000000
/-! # Written tables with text keys, constants, list-or-tuples, enumerate, try -/
namespace Sh
open PySem PySem.Spec PyProof.Rows L2
open SX (S)
section
variable {X : Cx} {x : Str} {pos : Pos} {d : Addr} {es : Array DictEntry} {n : Nat}
theorem pe_gI {i : Int} (h : ∃ t, X.mg x = some (.int i t)) (hg : Gl X x := by rfl) (hdb : (x == ("__debug__" : Str)) = false := by decide) : PE X (.Name x pos) (tC (.int i)) := by
  obtain ⟨t, h⟩ := h
  exact pe_glob hg h ⟨t, rfl⟩ hdb
theorem pe_gS {z : Str} (h : ∃ t, X.mg x = some (.str z t)) (hg : Gl X x := by rfl) (hdb : (x == ("__debug__" : Str)) = false := by decide) : PE X (.Name x pos) (tC (.str z)) := by
  obtain ⟨t, h⟩ := h
  exact pe_glob hg h ⟨t, rfl⟩ hdb
def rNotInK (K : PySem.W.Frag) (d : Addr) : R2 := fun x y H Q => ∃ (z : Str) (r : Option Value), x = .str z ∧ y = .ref d ∧ PySem.W.nsIn K d z = some r ∧ Q (.bl (!r.isSome)) H
def rInK (K : PySem.W.Frag) (d : Addr) : R2 := fun x y H Q => ∃ (z : Str) (r : Option Value), x = .str z ∧ y = .ref d ∧ PySem.W.nsIn K d z = some r ∧ Q (.bl r.isSome) H
/-- table[z] -/
def rIxK (K : PySem.W.Frag) (d : Addr) : R2 := fun x y H Q => ∃ (z : Str) (u : Value) (v : V), x = .ref d ∧ y = .str z ∧ PySem.W.nsIn K d z = some (some u) ∧ RelV v u ∧ Q v H
theorem op_notInK (D : ∃ es n, KDict X.K X.w d es n) : OpR X (compareOp .NotIn) (rNotInK X.K d) := by
  obtain ⟨es, n, D⟩ := D
  exact op_notIn_kd D
theorem op_inK (D : ∃ es n, KDict X.K X.w d es n) : OpR X (compareOp .In) (rInK X.K d) := by
  obtain ⟨es, n, D⟩ := D
  exact op_in_kd D
theorem ix_K (D : ∃ es n, KDict X.K X.w d es n) : IxR X (rIxK X.K d) := by
  obtain ⟨es, n, D⟩ := D
  intro value slice pins s σ H x y v u Q I rx ry h hs
  obtain ⟨z, u0, v0, rfl, rfl, h1, h2, q⟩ := h
  exact ix_kdict value slice pins s σ H _ _ v u Q I rx ry ⟨d, z, v0, rfl, rfl, ⟨es, n, u0, D.at_, D.lit, h1, h2⟩, q⟩ hs
/-- a part of a list or a tuple -/
def rSlLT (K : PySem.W.Frag) : V → Option Int → Option Int → Hp → VK → Prop := fun x lo hi H Q => rSlL K x lo hi H Q ∨ rSlT K x lo hi H Q
theorem sl_lt : SlR X (rSlLT X.K) := by
  intro pins s σ H x v vl vu lo hi sl Q I rx hs pl pu h
  rcases h with h | h
  · exact sl_list pins s σ H x v vl vu lo hi sl Q I rx hs pl pu h
  · exact sl_tup pins s σ H x v vl vu lo hi sl Q I rx hs pl pu h
end
/-- what the table at d says of z -/
class Tv (K : PySem.W.Frag) (d : Addr) (z : Str) (v : outParam V) : Prop where
  h : ∃ u, PySem.W.nsIn K d z = some (some u) ∧ RelV v u
theorem tv_of {K : PySem.W.Frag} {a : Addr} {kvs : List (Str × He.Dv)} (h : He.valsB K a kvs = true) {z : Str} {v : He.Dv} (hq : (z, v) ∈ kvs) : Tv K a z (v.v K) := ⟨He.valsB_ok h hq⟩
/-- a list or a tuple -/
class FzS (K : PySem.W.Frag) (F : Hp) (a : Addr) (xs : outParam (List V)) : Prop where
  h : SqL K F a xs ∨ SqT K F a xs
section
variable {K : PySem.W.Frag} {σ σ' : L2.St} {H F F' : Hp} {M : Ow} {Q : VK} {g : TG} {tb : TS} {te tl : TE} {tr : TA} {tt : TT} {N B C : L2.St → Hp → Prop} {R : VK} {vs : List Nat} {p a d : Addr} {i j : Int} {xs : List V} {v : V} {z : Str} {q : Bool → Prop} {c : Bool}
instance [t : Tv K d z v] : St1 (rNotInK K d (.str z) (.ref d) H Q) (Q (.bl false) H) := ⟨fun h => by
  obtain ⟨u, h1, -⟩ := t.h
  exact ⟨z, _, rfl, rfl, h1, h⟩⟩
instance [t : Tv K d z v] : St1 (rInK K d (.str z) (.ref d) H Q) (Q (.bl true) H) := ⟨fun h => by
  obtain ⟨u, h1, -⟩ := t.h
  exact ⟨z, _, rfl, rfl, h1, h⟩⟩
instance [t : Tv K d z v] : St1 (rIxK K d (.ref d) (.str z) H Q) (Q v H) := ⟨fun h => by
  obtain ⟨u, h1, h2⟩ := t.h
  exact ⟨z, u, v, rfl, rfl, h1, h2, h⟩⟩
instance (priority := 900) [e : Sm F F'] [l : FzS K F a xs] : FzS K F' a xs := ⟨l.h.imp (fun h => same_l e.h h) fun h => same_t e.h h⟩
instance (priority := 700) [hs : Hs F M H] [hm : FzS K F p xs] [ha : At xs i v] : St1 (rIx K (.ref p) (.int i) H Q) (Q v H) := ⟨fun h => by
  rcases hm.h with e | e
  · exact .inl ⟨p, xs, i, v, rfl, rfl, same_l hs.fz e, ha.h, h⟩
  · exact .inr (.inl ⟨p, xs, i, v, rfl, rfl, same_t hs.fz e, ha.h, h⟩)⟩
instance (priority := 700) [hs : Hs F M H] [hm : FzS K F p xs] : St1 (rLn K [.ref p] H Q) (Q (.int (xs.length : Int)) H) := ⟨fun h => by
  rcases hm.h with e | e
  · exact ⟨.ref p, _, rfl, .inl ⟨xs, same_l hs.fz e, rfl⟩, h⟩
  · exact ⟨.ref p, _, rfl, .inr ⟨xs, same_t hs.fz e, rfl⟩, h⟩⟩
instance (priority := 700) [hs : Hs F M H] [hm : FzS K F p xs] [e : Ie xs c] : St1 (nTru K (.ref p) H q) (q c) := ⟨fun h => by
  rcases hm.h with e1 | e1
  · exact ⟨_, .inl ⟨xs, same_l hs.fz e1, rfl⟩, by rw [e.h]; exact h⟩
  · exact ⟨_, .inr (.inl ⟨xs, same_t hs.fz e1, rfl⟩), by rw [e.h]; exact h⟩⟩
/-- a part, new and frozen -/
theorem nSlLT {lo hi : Option Int} {ys : List V} [hs : Hs F M H] [hm : FzS K F p xs] (hn : ¬ (HT.sIx xs.length 0 lo = 0 ∧ HT.sIx xs.length xs.length hi = xs.length)) (e : cutV xs lo hi = ys)
    (h : ∀ t F' H', F t = none → Sm F F' → Hs F' M H' → FzS K F' t ys → Q (.ref t) H') : rSlLT K (.ref p) lo hi H Q := by
  rcases hm.h with e1 | e1
  · exact .inl ⟨p, xs, rfl, same_l hs.fz e1, fun t ht => h t _ _ (hs.free ht) ⟨same_upd (hs.free ht)⟩ (hs.newF ht) ⟨.inl (e ▸ .inl (.inl upd_same))⟩⟩
  · exact .inr ⟨p, xs, rfl, same_t hs.fz e1, hn, fun t ht => h t _ _ (hs.free ht) ⟨same_upd (hs.free ht)⟩ (hs.newF ht) ⟨.inr (e ▸ .inl (.inl upd_same))⟩⟩
theorem nSlT {lo hi : Option Int} {ys : List V} [hs : Hs F M H] [hm : FzT K F p xs] (hn : ¬ (HT.sIx xs.length 0 lo = 0 ∧ HT.sIx xs.length xs.length hi = xs.length)) (e : cutV xs lo hi = ys)
    (h : ∀ t F' H', F t = none → Sm F F' → Hs F' M H' → FzT K F' t ys → Q (.ref t) H') : rSlT K (.ref p) lo hi H Q :=
  ⟨p, xs, rfl, same_t hs.fz hm.h, hn, fun t ht => h t _ _ (hs.free ht) ⟨same_upd (hs.free ht)⟩ (hs.newF ht) ⟨e ▸ .inl (.inl upd_same)⟩⟩
theorem nTupleOfS [hs : Hs F M H] [hm : FzS K F p xs] (h : ∀ q F' H', Sm F F' → Hs F' M H' → FzT K F' q xs → Q (.ref q) H') : rTupleOf K [.ref p] H Q := by
  rcases hm.h with e | e
  · have : FzL K F p xs := ⟨e⟩
    exact nTupleOfL fun q F' H' _ h1 h2 h3 _ => h q F' H' h1 h2 h3
  · have : FzT K F p xs := ⟨e⟩
    exact nTupleOfT (h p F H ⟨Same.refl F⟩ hs this)
theorem nCompLT {te' : TE} {σw : L2.St} (I : Nat → Cv) [hs : Hs F M H] [hw : Wp σ vs σw] [hm : FzS K F a xs] (h0 : I 0 [] F M)
    (step : ∀ i x acc D F' M' H', xs[i]? = some x → Sm F F' → Hs F' ((D, HO.lst acc) :: M') H' → I i acc F' M' → CvT g tt te' vs σw F D (I (i + 1)) x H')
    (done : ∀ D acc F' M' H', F D = none → Sm F F' → Hs F' ((D, HO.lst acc) :: M') H' → I xs.length acc F' M' → Q (.ref D) H') : nSeqLT K (.ref a) H fun J H1 => nComp g tt te' vs σ Q J H1 := by
  rcases hm.h with hx | hx
  · have : FzL K F a xs := ⟨hx⟩
    exact .inl (nCompL I h0 step done)
  · have : FzT K F a xs := ⟨hx⟩
    exact .inr (nCompT I h0 step done)
/-- enumerate -/
def nEnum (K : PySem.W.Frag) (vs : List V) (H : Hp) (q : It → Hp → Prop) : Prop := ∃ a xs, vs = [.ref a] ∧ SqL K H a xs ∧ q (Ite K a) H
instance : St1 (tFor (iEnum K tr) g tb (En N R B C) σ H) (tr σ H fun vs H1 => nEnum K vs H1 fun J H1 => nLoop g tb N R σ J H1) := ⟨id⟩
theorem nLoopE (I : Nat → Iv) [hs : Hs F M H] [hx : FzL K F a xs] (h0 : I 0 σ F M)
    (step : ∀ (i : Nat) x T σ' F' M' H', xs[i]? = some x → Sm F F' → Hs F' M' H' → FzT K F' T [.int i, x] → I i σ' F' M' → g (.ref T) σ' H' fun σ2 H2 => tb (En (IvH F (I (i + 1))) R N (IvH F (I (i + 1)))) σ2 H2)
    (done : ∀ σ' F' M' H', Sm F F' → Hs F' M' H' → I xs.length σ' F' M' → N σ' H') (mono : ∀ i σ' F1 F2 M', Same F1 F2 → I i σ' F1 M' → I i σ' F2 M') : nEnum K [.ref a] H fun J H1 => nLoop g tb N R σ J H1 := by
  refine ⟨a, xs, rfl, same_l hs.fz hx.h, ?_⟩
  refine for_it (D := En N R N N) (walk_enum (K := K) (a := a) (xs := xs)) (fun i => IvH F (I i)) ⟨F, M, Same.refl F, hs, h0⟩ (fun i σ' H' _ ⟨F', M', e, hs', _⟩ => same_l hs'.fz (same_l e hx.h)) ?_ ?_
  · rintro i x σ' H1 H2 hi ⟨F', M', e, hs', p⟩ ⟨T, x1, y1, rfl, hT, rfl, h1, h2⟩
    cases h1
    have hf := hs'.free hT
    exact step i y1 T σ' _ M' _ h2 ⟨e.trans (same_upd (o := .tup [.int (i : Nat), y1]) hf)⟩ (hs'.newF hT) ⟨.inl (.inl upd_same)⟩ (mono i σ' _ _ M' (same_upd hf) p)
  · rintro σ' H' ⟨F', M', e, hs', p⟩
    exact done σ' F' M' H' ⟨e⟩ hs' p
/-- try .. except C as e -/
def tTryAs (K : PySem.W.Frag) (c : Value) (i : Nat) (ts : Addr → Value → Option Addr → TS) (tb : WX → TS) : TS := fun D σ H => tb (wAs K c i ts (fun _ _ _ _ => False) D) D σ H
theorem ps_tryAs {X : Cx} {x n : Str} {c : Value} {i : Nat} {body suite : List Stmt} {b₀ : Stmt} {np pos pos' : Pos} {tb : WX → TS} {ts : Addr → Value → Option Addr → TS} (hs : X.stack = X.env :: X.outer) (hf : X.env.frame = some X.env.locals) (hN : X.N.Nodup) (hi : X.N[i]? = some n) (hln : X.env.kindOf n = some .local) (hc : Names X x c)
    (hb : ∀ (W : WX) (pn : List (Addr × Obj)) (xe : Value → Shared → Prop), Takes (X.tr pn xe) W → PassesOwn (model X.prog X.w) X.A X.env xe → PSs (X.tr pn xe) body (tb W))
    (hsu : ∀ (a : Addr) (oe : Obj) (cls : Value) (d : Option Addr) (pn : List (Addr × Obj)), Zc cls d oe → (∃ vs, oe.data = .fields vs) → PSs (X.suite a ((a, oe) :: pn)) (b₀ :: suite) (ts a cls d)) :
    PS X (.Try body [.ExceptHandler (some (.Name x np)) (some n) (b₀ :: suite) pos'] [] [] pos) (tTryAs X.K c i ts tb) :=
  ps_try_as (Wout := fun _ _ _ _ => False) hs hf hN hi hln hc takes0 hb hsu
instance {D : Ends} {c : Value} {n : Nat} {ts : Addr → Value → Option Addr → TS} {tb' : WX → TS} : St1 (tTryAs K c n ts tb' D σ H) (tb' (wAs K c n ts (fun _ _ _ _ => False) D) D σ H) := ⟨id⟩
/-- deep equality, told by data -/
theorem nEqD {x y : V} {d e : PyData} {c : Bool} (h1 : Dp K H x d) (h2 : Dp K H y e) (h3 : SeqAt.shaped d = true) (h4 : SeqAt.shaped e = true) (h5 : PyData.eqv d e = c) (h : Q (.bl c) H) : rEqD K x y H Q := ⟨d, e, h1, h2, h3, h4, by rw [h5]; exact h⟩
end
end Sh


set_option Elab.async false
set_option linter.all false
set_option maxRecDepth 100000
set_option maxHeartbeats 4000000
/-! # Rules and the texts that they make -/
namespace Sh
open PySem PySem.Spec PyProof.Rows L2
open SX (S)
abbrev Tx := List Nat
inductive Ru where
  | wri (w : Tx)
  | join (i j : Nat)
  | power (i t : Nat)
  | part (i a b : Nat)
  | back (i : Nat)
def signs : Tx := [32, 33, 34, 35, 36, 38, 39, 40, 41, 42, 43, 44, 45, 46, 47, 48, 49, 50, 51, 52, 53, 54, 55, 56, 57, 58, 59, 60, 61, 62, 63, 64, 65, 66, 67, 68, 69, 70, 71, 72, 73, 74, 75, 76, 77, 78, 79, 80, 81, 82, 83, 84, 85, 86, 87, 88, 89, 90, 91, 92, 93, 94, 95, 96, 97, 98, 99, 100, 101, 102, 103, 104, 105, 106, 107, 108, 109, 110, 111, 112, 113, 114, 115, 116, 117, 118, 119, 120, 121, 122, 123, 124, 125, 126]
theorem signs_eq : (" !\"#$&'()*+,-./0123456789:;<=>?@ABCDEFGHIJKLMNOPQRSTUVWXYZ[\\]^_`abcdefghijklmnopqrstuvwxyz{|}~" : Str) = S signs := by decide +kernel
theorem empty_eq : ("" : Str) = S [] := by decide +kernel
/-- the text that a rule makes of earlier ones -/
def gt (ts : List Tx) (i : Nat) : Tx := ts.getD i []
def ruT (ts : List Tx) : Ru → Tx
  | .wri w => w
  | .join i j => gt ts i ++ gt ts j
  | .power i t => (List.replicate t (gt ts i)).flatten
  | .part i a b => ((gt ts i).take b).drop a
  | .back i => (gt ts i).reverse
def ruV : Ru → List V
  | .wri w => [.str "letters", .str (S w)]
  | .join i j => [.str "join", .int (i : Int), .int (j : Int)]
  | .power i t => [.str "power", .int (i : Int), .int (t : Int)]
  | .part i a b => [.str "part", .int (i : Int), .int (a : Int), .int (b : Int)]
  | .back i => [.str "back", .int (i : Int)]
/-- a rule behind n others -/
def RuK (n : Nat) (ts : List Tx) : Ru → Prop
  | .wri w => w.length ≤ 64 ∧ ∀ c ∈ w, c ∈ signs
  | .join i j => i < n ∧ j < n
  | .power i t => i < n ∧ t ≤ 1000000000000
  | .part i a b => i < n ∧ a ≤ b ∧ b ≤ (gt ts i).length
  | .back i => i < n
/-- rules and their texts -/
structure Tab (rs : List Ru) (ts : List Tx) : Prop where
  ln : ts.length = rs.length
  ok : ∀ i r, rs[i]? = some r → RuK i ts r ∧ ts[i]? = some (ruT ts r) ∧ (ruT ts r).length ≤ 1000000000000
theorem Tab.nil : Tab [] [] := ⟨rfl, fun i r h => by simp at h⟩
theorem gt_at {ts : List Tx} {i : Nat} {t : Tx} (h : ts[i]? = some t) : gt ts i = t := by unfold gt; rw [List.getD_eq_getElem?_getD, h]; rfl
theorem at_gt {ts : List Tx} {i : Nat} (h : i < ts.length) : ts[i]? = some (gt ts i) := by
  rw [List.getElem?_eq_getElem h, gt_at (List.getElem?_eq_getElem h)]
theorem gt_app {ts us : List Tx} {i : Nat} (h : i < ts.length) : gt (ts ++ us) i = gt ts i := gt_at (by rw [List.getElem?_append_left h]; exact at_gt h)
theorem gt_app2 {ts us : List Tx} {i : Nat} : gt (ts ++ us) (ts.length + i) = gt us i := by
  unfold gt
  rw [List.getD_eq_getElem?_getD, List.getD_eq_getElem?_getD, List.getElem?_append_right (by omega)]
  congr 2; omega
theorem ruT_app {n : Nat} {ts us : List Tx} {r : Ru} (h : RuK n ts r) (hn : n ≤ ts.length) : ruT (ts ++ us) r = ruT ts r := by
  cases r with
  | wri w => rfl
  | join i j => obtain ⟨h1, h2⟩ := h; show gt _ i ++ gt _ j = _; rw [gt_app (by omega), gt_app (by omega)]; rfl
  | power i t => obtain ⟨h1, h2⟩ := h; show (List.replicate t (gt _ i)).flatten = _; rw [gt_app (by omega)]; rfl
  | part i a b => obtain ⟨h1, h2⟩ := h; show ((gt _ i).take b).drop a = _; rw [gt_app (by omega)]; rfl
  | back i => have h1 : i < n := h; show (gt _ i).reverse = _; rw [gt_app (by omega)]; rfl
theorem RuK.app {n : Nat} {ts us : List Tx} {r : Ru} (h : RuK n ts r) (hn : n ≤ ts.length) : RuK n (ts ++ us) r := by
  cases r with
  | part i a b => obtain ⟨h1, h2, h3⟩ := h; exact ⟨h1, h2, by rw [gt_app (by omega)]; exact h3⟩
  | wri w => exact h
  | join i j => exact h
  | power i t => exact h
  | back i => exact h
theorem RuK.more {n m : Nat} {ts : List Tx} {r : Ru} (h : RuK n ts r) (hn : n ≤ m) : RuK m ts r := by
  cases r with
  | part i a b => obtain ⟨h1, h2, h3⟩ := h; exact ⟨by omega, h2, h3⟩
  | wri w => exact h
  | join i j => obtain ⟨h1, h2⟩ := h; exact ⟨by omega, by omega⟩
  | power i t => obtain ⟨h1, h2⟩ := h; exact ⟨by omega, h2⟩
  | back i => have h1 : i < n := h; show i < m; omega
theorem Tab.snoc {rs : List Ru} {ts : List Tx} {r : Ru} (h : Tab rs ts) (k : RuK rs.length ts r) (hl : (ruT ts r).length ≤ 1000000000000) : Tab (rs ++ [r]) (ts ++ [ruT ts r]) := by
  refine ⟨by simp [h.ln], fun i r' hi => ?_⟩
  by_cases hlt : i < rs.length
  · rw [List.getElem?_append_left hlt] at hi
    obtain ⟨h1, h2, h3⟩ := h.ok i r' hi
    have := h.ln
    rw [ruT_app h1 (by omega)]
    exact ⟨h1.app (by omega), by rw [List.getElem?_append_left (by omega)]; exact h2, h3⟩
  · rw [List.getElem?_append_right (by omega)] at hi
    have hlen : i - rs.length < 1 := by
      have := (List.getElem?_eq_some_iff.mp hi).1
      simpa using this
    have : i = rs.length := by omega
    subst this
    simp at hi
    subst hi
    have := h.ln
    rw [ruT_app k (by omega)]
    exact ⟨k.app (by omega), by rw [List.getElem?_append_right (by omega), h.ln, Nat.sub_self]; rfl, hl⟩
theorem Tab.get {rs : List Ru} {ts : List Tx} (h : Tab rs ts) {i : Nat} (hi : i < ts.length) : ∃ r, rs[i]? = some r ∧ RuK i ts r ∧ gt ts i = ruT ts r ∧ (gt ts i).length ≤ 1000000000000 := by
  have hl := h.ln
  have e := List.getElem?_eq_getElem (l := rs) (i := i) (by omega)
  obtain ⟨h1, h2, h3⟩ := h.ok i _ e
  exact ⟨_, e, h1, gt_at h2, by rw [gt_at h2]; exact h3⟩
theorem Tab.le {rs : List Ru} {ts : List Tx} (h : Tab rs ts) (i : Nat) : (gt ts i).length ≤ 1000000000000 := by
  by_cases hi : i < ts.length
  · obtain ⟨r, _, _, _, h4⟩ := h.get hi; exact h4
  · unfold gt
    rw [List.getD_eq_getElem?_getD, List.getElem?_eq_none (by omega)]
    simp
theorem gt_take {ts : List Tx} {i j : Nat} (h : j < i) : gt (ts.take i) j = gt ts j := by
  unfold gt
  rw [List.getD_eq_getElem?_getD, List.getD_eq_getElem?_getD, List.getElem?_take, if_pos h]
theorem gt_take_le {ts : List Tx} {n : Nat} (h : ∀ i, (gt ts i).length ≤ n) (i j : Nat) : (gt (ts.take i) j).length ≤ n := by
  by_cases hj : j < i
  · rw [gt_take hj]; exact h j
  · unfold gt
    rw [List.getD_eq_getElem?_getD, List.getElem?_eq_none (by rw [List.length_take]; omega)]
    simp
theorem Tab.pre {rs : List Ru} {ts : List Tx} (h : Tab rs ts) {i : Nat} {r : Ru} (hr : rs[i]? = some r) : RuK i (ts.take i) r ∧ ruT (ts.take i) r = gt ts i ∧ (ts.take i).length = i := by
  have hi := (List.getElem?_eq_some_iff.mp hr).1
  have hl := h.ln
  obtain ⟨h1, h2, h3⟩ := h.ok i r hr
  have l : (ts.take i).length = i := by rw [List.length_take]; omega
  have hk : RuK i (ts.take i) r := by
    cases r with
    | part j a b => obtain ⟨k1, k2, k3⟩ := h1; exact ⟨k1, k2, by rw [gt_take k1]; exact k3⟩
    | wri w => exact h1
    | join i j => exact h1
    | power i t => exact h1
    | back i => exact h1
  refine ⟨hk, ?_, l⟩
  rw [gt_at h2]
  have e := ruT_app (us := ts.drop i) hk (by omega)
  rw [List.take_append_drop] at e
  exact e.symm
theorem take_one {α : Type} {l : List α} {i : Nat} {x : α} (h : l[i]? = some x) : l.take (i + 1) = l.take i ++ [x] := by rw [List.take_add_one, h]; rfl
/-- the lengths -/
def lens (ts : List Tx) : List V := ts.map fun t => .int (t.length : Int)
theorem lens_get {ts : List Tx} {i : Nat} (h : i < ts.length) : (lens ts)[i]? = some (.int ((gt ts i).length : Int)) := by
  unfold lens
  rw [List.getElem?_map, at_gt h]; rfl
theorem lens_at {ts : List Tx} {i : Nat} (h : i < ts.length) : atI (lens ts) (i : Int) = some (.int ((gt ts i).length : Int)) := atI_nat (lens_get h)
theorem lens_len {ts : List Tx} : (lens ts).length = ts.length := by simp [lens]
theorem lens_snoc {ts : List Tx} {t : Tx} : lens (ts ++ [t]) = lens ts ++ [.int (t.length : Int)] := by simp [lens]

/-! ### places and parts of a power, a part, what is turned round -/
theorem rep_len {x : Tx} {t : Nat} : (List.replicate t x).flatten.length = t * x.length := by simp [List.length_flatten]
theorem rep_at {x : Tx} : ∀ {t p : Nat}, p < t * x.length → (List.replicate t x).flatten[p]? = x[p % x.length]?
  | 0, p, h => by omega
  | t + 1, p, h => by
    rw [List.replicate_succ, List.flatten_cons]
    by_cases hp : p < x.length
    · rw [List.getElem?_append_left hp, Nat.mod_eq_of_lt hp]
    · rw [List.getElem?_append_right (by omega), rep_at (by rw [Nat.add_mul] at h; omega)]
      congr 1
      rw [← Nat.mod_eq_sub_mod (by omega)]
theorem rev_at {x : Tx} {p : Nat} (h : p < x.length) : x.reverse[p]? = x[x.length - 1 - p]? := by
  rw [List.getElem?_reverse h]
theorem cut_at {x : Tx} {a b p : Nat} (h : p < b - a) : ((x.take b).drop a)[p]? = x[p + a]? := by
  rw [List.getElem?_drop, List.getElem?_take, if_pos (by omega), Nat.add_comm]
theorem cut_len {x : Tx} {a b : Nat} (h : b ≤ x.length) : ((x.take b).drop a).length = b - a := by
  rw [List.length_drop, List.length_take]; omega
/-- where the letter at p of a rule's text stands in an earlier one -/
def inP (ts : List Tx) : Ru → Nat → Nat × Nat
  | .wri _, p => (0, p)
  | .join i j, p => if p < (gt ts i).length then (i, p) else (j, p - (gt ts i).length)
  | .power i _, p => (i, p % (gt ts i).length)
  | .part i a _, p => (i, p + a)
  | .back i, p => (i, (gt ts i).length - 1 - p)
theorem inP_ok {n : Nat} {ts : List Tx} {r : Ru} {p : Nat} (h : RuK n ts r) (hw : ∀ w, r ≠ .wri w) (hp : p < (ruT ts r).length) : (inP ts r p).1 < n ∧ (inP ts r p).2 < (gt ts (inP ts r p).1).length ∧ (ruT ts r)[p]? = (gt ts (inP ts r p).1)[(inP ts r p).2]? := by
  cases r with
  | wri w => exact absurd rfl (hw w)
  | join i j =>
    obtain ⟨h1, h2⟩ := h
    have hp' : p < (gt ts i).length + (gt ts j).length := by rw [← List.length_append]; exact hp
    show (if p < (gt ts i).length then (i, p) else (j, p - (gt ts i).length)).1 < n ∧ _
    by_cases hlt : p < (gt ts i).length
    · simp only [inP, if_pos hlt]
      exact ⟨h1, hlt, List.getElem?_append_left hlt⟩
    · simp only [inP, if_neg hlt]
      exact ⟨h2, by omega, List.getElem?_append_right (by omega)⟩
  | power i t =>
    have hp' : p < t * (gt ts i).length := by rw [← rep_len]; exact hp
    have : 0 < (gt ts i).length := by
      rcases Nat.eq_zero_or_pos (gt ts i).length with z | z
      · rw [z, Nat.mul_zero] at hp'; omega
      · exact z
    exact ⟨h.1, Nat.mod_lt _ this, rep_at hp'⟩
  | part i a b =>
    obtain ⟨h1, h2, h3⟩ := h
    have hp' : p < b - a := by rw [← cut_len h3]; exact hp
    exact ⟨h1, by show p + a < (gt ts i).length; omega, cut_at hp'⟩
  | back i =>
    have h1 : i < n := h
    have hp' : p < (gt ts i).length := by rw [← List.length_reverse]; exact hp
    exact ⟨h1, by show (gt ts i).length - 1 - p < (gt ts i).length; omega, rev_at hp'⟩
/-- a part of a text -/
def cut (x : Tx) (a b : Nat) : Tx := (x.take b).drop a
theorem cut_len' {x : Tx} {a b : Nat} (h : b ≤ x.length) : (cut x a b).length = b - a := cut_len h
theorem cut_nil {x : Tx} {a b : Nat} (h : b ≤ a) : cut x a b = [] := by
  unfold cut
  rw [List.drop_eq_nil_iff, List.length_take]; omega
theorem cut_all {x : Tx} : cut x 0 x.length = x := by simp [cut]
theorem cut_get {x : Tx} {a b p : Nat} (h : p < b - a) : (cut x a b)[p]? = x[p + a]? := cut_at h
theorem cut_app {x : Tx} {a b c : Nat} (h1 : a ≤ b) (h2 : b ≤ c) : cut x a b ++ cut x b c = cut x a c := by
  unfold cut
  rw [List.drop_take, List.drop_take, List.drop_take]
  have e : x.drop b = (x.drop a).drop (b - a) := by rw [List.drop_drop]; congr 1; omega
  rw [e]
  have e2 : c - a = (b - a) + (c - b) := by omega
  rw [e2, List.take_add]
theorem cut_cut {x : Tx} {a b c d : Nat} (h : a + d ≤ b) : cut (cut x a b) c d = cut x (a + c) (a + d) := by
  unfold cut
  simp only [List.drop_take, List.take_take, List.drop_drop]
  congr 1
  omega
theorem cut_append {x y : Tx} {a b : Nat} (h : a ≤ b) : cut (x ++ y) a b = cut x a (min b x.length) ++ cut y (a - x.length) (b - x.length) := by
  unfold cut
  rw [List.take_append, List.drop_append]
  congr 1
  · congr 1
    exact List.take_eq_take_min
  · rw [List.length_take]
    congr 1
    omega
theorem cut_rev {x : Tx} {a b : Nat} (h : b ≤ x.length) : cut x.reverse a b = (cut x (x.length - b) (x.length - a)).reverse := by
  by_cases hab : a ≤ b
  · apply List.ext_getElem?
    intro i
    have l1 : (cut x.reverse a b).length = b - a := cut_len' (by rw [List.length_reverse]; exact h)
    have l2 : (cut x (x.length - b) (x.length - a)).length = b - a := by rw [cut_len' (by omega)]; omega
    by_cases hi : i < b - a
    · rw [cut_get hi, rev_at (by omega), List.getElem?_reverse (by omega), l2, cut_get (by omega)]
      congr 1; omega
    · rw [List.getElem?_eq_none (by omega), List.getElem?_eq_none (by rw [List.length_reverse]; omega)]
  · rw [cut_nil (by omega), cut_nil (by omega)]; rfl
end Sh


set_option Elab.async false
set_option linter.all false
set_option maxRecDepth 100000
set_option maxHeartbeats 4000000
/-! # Words compared; rules as data -/
namespace Sh
open PySem PySem.Spec PyProof.Rows L2
open SX (S)
/-- whether two written words are one -/
class Wd (a b : Str) (r : outParam Bool) : Prop where
  h : decide (a = b) = r
instance : Wd "letters" "letters" true := ⟨by decide +kernel⟩
instance : Wd "letters" "join" false := ⟨by decide +kernel⟩
instance : Wd "letters" "power" false := ⟨by decide +kernel⟩
instance : Wd "letters" "part" false := ⟨by decide +kernel⟩
instance : Wd "letters" "back" false := ⟨by decide +kernel⟩
instance : Wd "letters" "" false := ⟨by decide +kernel⟩
instance : Wd "join" "letters" false := ⟨by decide +kernel⟩
instance : Wd "join" "join" true := ⟨by decide +kernel⟩
instance : Wd "join" "power" false := ⟨by decide +kernel⟩
instance : Wd "join" "part" false := ⟨by decide +kernel⟩
instance : Wd "join" "back" false := ⟨by decide +kernel⟩
instance : Wd "join" "" false := ⟨by decide +kernel⟩
instance : Wd "power" "letters" false := ⟨by decide +kernel⟩
instance : Wd "power" "join" false := ⟨by decide +kernel⟩
instance : Wd "power" "power" true := ⟨by decide +kernel⟩
instance : Wd "power" "part" false := ⟨by decide +kernel⟩
instance : Wd "power" "back" false := ⟨by decide +kernel⟩
instance : Wd "power" "" false := ⟨by decide +kernel⟩
instance : Wd "part" "letters" false := ⟨by decide +kernel⟩
instance : Wd "part" "join" false := ⟨by decide +kernel⟩
instance : Wd "part" "power" false := ⟨by decide +kernel⟩
instance : Wd "part" "part" true := ⟨by decide +kernel⟩
instance : Wd "part" "back" false := ⟨by decide +kernel⟩
instance : Wd "part" "" false := ⟨by decide +kernel⟩
instance : Wd "back" "letters" false := ⟨by decide +kernel⟩
instance : Wd "back" "join" false := ⟨by decide +kernel⟩
instance : Wd "back" "power" false := ⟨by decide +kernel⟩
instance : Wd "back" "part" false := ⟨by decide +kernel⟩
instance : Wd "back" "back" true := ⟨by decide +kernel⟩
instance : Wd "back" "" false := ⟨by decide +kernel⟩
instance : Wd "" "letters" false := ⟨by decide +kernel⟩
instance : Wd "" "join" false := ⟨by decide +kernel⟩
instance : Wd "" "power" false := ⟨by decide +kernel⟩
instance : Wd "" "part" false := ⟨by decide +kernel⟩
instance : Wd "" "back" false := ⟨by decide +kernel⟩
instance : Wd "" "" true := ⟨by decide +kernel⟩

section
variable {K : PySem.W.Frag} {H F F' : Hp} {Q : VK} {a b : Str} {r : Bool}
instance (priority := 1100) [w : Wd a b r] : St1 (rEq (.str a) (.str b) H Q) (Q (.bl r) H) := ⟨fun h => ⟨rfl, by rw [dS, w.h]; exact h⟩⟩
instance (priority := 1100) [w : Wd a b r] : St1 (rNe (.str a) (.str b) H Q) (Q (.bl (!r)) H) := ⟨fun h => ⟨rfl, by rw [dS, w.h]; exact h⟩⟩
theorem dEmpty {z : List Nat} : decide (S z = ("" : Str)) = z.isEmpty := by
  rw [empty_eq]
  cases z with
  | nil => exact decide_eq_true rfl
  | cons a z => exact decide_eq_false fun h => by cases SX.S_inj h
instance (priority := 1200) {z : List Nat} : St1 (rEq (.str (S z)) (.str "") H Q) (Q (.bl z.isEmpty) H) := ⟨fun h => ⟨rfl, by rw [dS, dEmpty]; exact h⟩⟩
instance (priority := 1200) {z : List Nat} : St1 (rNe (.str (S z)) (.str "") H Q) (Q (.bl (!z.isEmpty)) H) := ⟨fun h => ⟨rfl, by rw [dS, dEmpty]; exact h⟩⟩
/-- a rule as data -/
def ruD : Ru → PyData
  | .wri w => .tuple [.str "letters", .str (S w)]
  | .join i j => .tuple [.str "join", .int (i : Int), .int (j : Int)]
  | .power i t => .tuple [.str "power", .int (i : Int), .int (t : Int)]
  | .part i a b => .tuple [.str "part", .int (i : Int), .int (a : Int), .int (b : Int)]
  | .back i => .tuple [.str "back", .int (i : Int)]
theorem dpa_two {xs : List V} {d1 d2 : PyData} (h : DpAll K F xs [d1, d2]) : ∃ v1 v2, xs = [v1, v2] ∧ Dp K F v1 d1 ∧ Dp K F v2 d2 := by
  cases h with | cons a r => cases r with | cons b r => cases r; exact ⟨_, _, rfl, a, b⟩
theorem dpa_three {xs : List V} {d1 d2 d3 : PyData} (h : DpAll K F xs [d1, d2, d3]) : ∃ v1 v2 v3, xs = [v1, v2, v3] ∧ Dp K F v1 d1 ∧ Dp K F v2 d2 ∧ Dp K F v3 d3 := by
  cases h with | cons a r => cases r with | cons b r => cases r with | cons c r => cases r; exact ⟨_, _, _, rfl, a, b, c⟩
theorem dpa_four {xs : List V} {d1 d2 d3 d4 : PyData} (h : DpAll K F xs [d1, d2, d3, d4]) : ∃ v1 v2 v3 v4, xs = [v1, v2, v3, v4] ∧ Dp K F v1 d1 ∧ Dp K F v2 d2 ∧ Dp K F v3 d3 ∧ Dp K F v4 d4 := by
  cases h with | cons a r => cases r with | cons b r => cases r with | cons c r => cases r with | cons d r => cases r; exact ⟨_, _, _, _, rfl, a, b, c, d⟩
theorem dpa_two' {v1 v2 : V} {d1 d2 : PyData} (a : Dp K F v1 d1) (b : Dp K F v2 d2) : DpAll K F [v1, v2] [d1, d2] := .cons a (.cons b .nil)
theorem dpa_three' {v1 v2 v3 : V} {d1 d2 d3 : PyData} (a : Dp K F v1 d1) (b : Dp K F v2 d2) (c : Dp K F v3 d3) : DpAll K F [v1, v2, v3] [d1, d2, d3] := .cons a (.cons b (.cons c .nil))
theorem dpa_four' {v1 v2 v3 v4 : V} {d1 d2 d3 d4 : PyData} (a : Dp K F v1 d1) (b : Dp K F v2 d2) (c : Dp K F v3 d3) (d : Dp K F v4 d4) : DpAll K F [v1, v2, v3, v4] [d1, d2, d3, d4] := .cons a (.cons b (.cons c (.cons d .nil)))
theorem dp_ru {v : V} {r : Ru} (h : Dp K F v (ruD r)) : ∃ a, v = .ref a ∧ SqT K F a (ruV r) := by
  cases r with
  | wri w =>
    obtain ⟨a, xs, rfl, h1, h2⟩ := dp_tup h
    obtain ⟨v1, v2, rfl, d1, d2⟩ := dpa_two h2
    rw [dp_str d1, dp_str d2] at h1; exact ⟨a, rfl, h1⟩
  | join i j =>
    obtain ⟨a, xs, rfl, h1, h2⟩ := dp_tup h
    obtain ⟨v1, v2, v3, rfl, d1, d2, d3⟩ := dpa_three h2
    rw [dp_str d1, dp_int d2, dp_int d3] at h1; exact ⟨a, rfl, h1⟩
  | power i j =>
    obtain ⟨a, xs, rfl, h1, h2⟩ := dp_tup h
    obtain ⟨v1, v2, v3, rfl, d1, d2, d3⟩ := dpa_three h2
    rw [dp_str d1, dp_int d2, dp_int d3] at h1; exact ⟨a, rfl, h1⟩
  | part i j k =>
    obtain ⟨a, xs, rfl, h1, h2⟩ := dp_tup h
    obtain ⟨v1, v2, v3, v4, rfl, d1, d2, d3, d4⟩ := dpa_four h2
    rw [dp_str d1, dp_int d2, dp_int d3, dp_int d4] at h1; exact ⟨a, rfl, h1⟩
  | back i =>
    obtain ⟨a, xs, rfl, h1, h2⟩ := dp_tup h
    obtain ⟨v1, v2, rfl, d1, d2⟩ := dpa_two h2
    rw [dp_str d1, dp_int d2] at h1; exact ⟨a, rfl, h1⟩
theorem dp_ruI {a : Addr} {r : Ru} (h : SqT K F a (ruV r)) : Dp K F (.ref a) (ruD r) := by
  cases r with
  | wri w => exact .tup h (dpa_two' (.str _) (.str _))
  | join i j => exact .tup h (dpa_three' (.str _) (.int _) (.int _))
  | power i t => exact .tup h (dpa_three' (.str _) (.int _) (.int _))
  | part i a b => exact .tup h (dpa_four' (.str _) (.int _) (.int _) (.int _))
  | back i => exact .tup h (dpa_two' (.str _) (.int _))
theorem dpa_rev : ∀ {xs : List V} {ds : List PyData}, DpAll K F xs ds → DpAll K F xs.reverse ds.reverse
  | _, _, .nil => .nil
  | _, _, .cons a r => by rw [List.reverse_cons, List.reverse_cons]; exact dpa_app (dpa_rev r) (.cons a .nil)
theorem dp_rus {vs : List V} {rs : List Ru} {i : Nat} {r : Ru} (h : DpAll K F vs (rs.map ruD)) (hr : rs[i]? = some r) : ∃ a, vs[i]? = some (.ref a) ∧ SqT K F a (ruV r) := by
  have hl := dpa_len h
  have hi := (List.getElem?_eq_some_iff.mp hr).1
  rw [List.length_map] at hl
  obtain ⟨v, d, h1, h2, h3⟩ := dpa_get (i := i) h (by rw [List.length_map]; exact hi)
  rw [List.getElem?_map, hr] at h2
  cases h2
  obtain ⟨a, rfl, h4⟩ := dp_ru h3
  exact ⟨a, h1, h4⟩
/-- rules that are passed: lists or tuples -/
def Pas (K : PySem.W.Frag) (F : Hp) (vs : List V) (rs : List Ru) : Prop := vs.length = rs.length ∧ ∀ (i : Nat) v r, vs[i]? = some v → rs[i]? = some r → ∃ a, v = .ref a ∧ (SqL K F a (ruV r) ∨ SqT K F a (ruV r))
theorem Pas.mono {vs : List V} {rs : List Ru} (e : Same F F') (h : Pas K F vs rs) : Pas K F' vs rs := ⟨h.1, fun i v r h1 h2 => by
  obtain ⟨a, h3, h4⟩ := h.2 i v r h1 h2
  exact ⟨a, h3, h4.imp (same_l e) (same_t e)⟩⟩
theorem Pas.of {vs : List V} {rs : List Ru} (h : DpAll K F vs (rs.map ruD)) : Pas K F vs rs := by
  have hl := dpa_len h
  rw [List.length_map] at hl
  refine ⟨hl, fun i v r h1 h2 => ?_⟩
  obtain ⟨a, h3, h4⟩ := dp_rus h h2
  rw [h1] at h3; cases h3
  exact ⟨a, rfl, .inr h4⟩
/-- a part that waits: number, first, last, turned -/
abbrev Pt := Nat × Nat × Nat × Bool
def ptD (p : Pt) : PyData := .tuple [.int (p.1 : Int), .int (p.2.1 : Int), .int (p.2.2.1 : Int), .bool p.2.2.2]
def ptT (ts : List Tx) (p : Pt) : Tx := if p.2.2.2 = true then (cut (gt ts p.1) p.2.1 p.2.2.1).reverse else cut (gt ts p.1) p.2.1 p.2.2.1
theorem dp_pt {v : V} {p : Pt} (h : Dp K F v (ptD p)) : ∃ a, v = .ref a ∧ SqT K F a [.int (p.1 : Int), .int (p.2.1 : Int), .int (p.2.2.1 : Int), .bl p.2.2.2] := by
  obtain ⟨a, xs, rfl, h1, h2⟩ := dp_tup h
  obtain ⟨v1, v2, v3, v4, rfl, d1, d2, d3, d4⟩ := dpa_four h2
  rw [dp_int d1, dp_int d2, dp_int d3] at h1
  cases d4
  exact ⟨a, rfl, h1⟩
theorem dp_ptI {a : Addr} {n x y : Nat} {c : Bool} (h : SqT K F a [.int (n : Int), .int (x : Int), .int (y : Int), .bl c]) : Dp K F (.ref a) (ptD (n, x, y, c)) := .tup h (dpa_four' (.int _) (.int _) (.int _) (.bl _))
end
/-- parts that are there, of earlier rules, not empty -/
def PtK (n : Nat) (ts : List Tx) (p : Pt) : Prop := p.1 < n ∧ p.2.1 < p.2.2.1 ∧ p.2.2.1 ≤ (gt ts p.1).length
def ptsT (ts : List Tx) (ps : List Pt) : Tx := (ps.map (ptT ts)).flatten
theorem ptsT_app {ts : List Tx} {a b : List Pt} : ptsT ts (a ++ b) = ptsT ts a ++ ptsT ts b := by simp [ptsT]
theorem ptsT_nil {ts : List Tx} : ptsT ts [] = [] := rfl
theorem ptsT_one {ts : List Tx} {p : Pt} : ptsT ts [p] = ptT ts p := by simp [ptsT]
/-- turned round: the other way about, each part turned -/
def flip (p : Pt) : Pt := (p.1, p.2.1, p.2.2.1, !decide (p.2.2.2 = true))
theorem ptT_flip {ts : List Tx} {p : Pt} : ptT ts (flip p) = (ptT ts p).reverse := by
  obtain ⟨n, a, b, c⟩ := p
  cases c <;> simp [ptT, flip]
theorem ptsT_turn {ts : List Tx} : ∀ {ps : List Pt}, ptsT ts ((ps.map flip).reverse) = (ptsT ts ps).reverse
  | [] => rfl
  | p :: ps => by
    rw [List.map_cons, List.reverse_cons, ptsT_app, ptsT_turn, ptsT_one, ptT_flip]
    show _ = (ptT ts p ++ ptsT ts ps).reverse
    rw [List.reverse_append]
/-- what is to be done -/
def ptM (ps : List Pt) : Nat := (ps.map fun p => 2 * (p.2.2.1 - p.2.1) * (p.1 + 1) + 1).sum
def ptL (ps : List Pt) : Nat := (ps.map fun p => p.2.2.1 - p.2.1).sum
theorem ptM_app {a b : List Pt} : ptM (a ++ b) = ptM a + ptM b := by simp [ptM]
theorem ptL_app {a b : List Pt} : ptL (a ++ b) = ptL a + ptL b := by simp [ptL]
theorem ptM_le {n : Nat} {ts : List Tx} : ∀ {ps : List Pt}, (∀ p ∈ ps, PtK n ts p) → ptM ps ≤ 2 * ptL ps * n + ps.length ∧ ps.length ≤ ptL ps
  | [], _ => by simp [ptM, ptL]
  | p :: ps, h => by
    obtain ⟨h1, h2⟩ := ptM_le (ps := ps) fun q hq => h q (List.mem_cons_of_mem _ hq)
    obtain ⟨k1, k2, k3⟩ := h p (List.mem_cons_self ..)
    have e1 : ptM (p :: ps) = (2 * (p.2.2.1 - p.2.1) * (p.1 + 1) + 1) + ptM ps := by simp [ptM]
    have e2 : ptL (p :: ps) = (p.2.2.1 - p.2.1) + ptL ps := by simp [ptL]
    have e3 : 2 * (p.2.2.1 - p.2.1) * (p.1 + 1) ≤ 2 * (p.2.2.1 - p.2.1) * n := Nat.mul_le_mul_left _ k1
    rw [e1, e2, List.length_cons]
    have e4 : 2 * (p.2.2.1 - p.2.1 + ptL ps) * n = 2 * (p.2.2.1 - p.2.1) * n + 2 * ptL ps * n := by rw [Nat.mul_add, Nat.add_mul]
    rw [e4]
    omega
theorem ptL_len {n : Nat} {ts : List Tx} : ∀ {ps : List Pt}, (∀ p ∈ ps, PtK n ts p) → (ptsT ts ps).length = ptL ps
  | [], _ => rfl
  | p :: ps, h => by
    have h1 := ptL_len (ps := ps) fun q hq => h q (List.mem_cons_of_mem _ hq)
    obtain ⟨k1, k2, k3⟩ := h p (List.mem_cons_self ..)
    have e2 : ptL (p :: ps) = (p.2.2.1 - p.2.1) + ptL ps := by simp [ptL]
    have e3 : (ptT ts p).length = p.2.2.1 - p.2.1 := by
      unfold ptT
      split
      · rw [List.length_reverse, cut_len' k3]
      · rw [cut_len' k3]
    show (ptT ts p ++ ptsT ts ps).length = _
    rw [List.length_append, h1, e2, e3]
theorem flip_all {ps : List Pt} : ptM (ps.map flip) = ptM ps ∧ ptL (ps.map flip) = ptL ps := by
  constructor
  · simp only [ptM, List.map_map]; rfl
  · simp only [ptL, List.map_map]; rfl
theorem ptM_rev {ps : List Pt} : ptM ps.reverse = ptM ps ∧ ptL ps.reverse = ptL ps := by
  constructor
  · simp [ptM]
  · simp [ptL]
/-- one word of a power -/
theorem rep_cut {x : Tx} {t k u v : Nat} (hk : k < t) (hv : v ≤ x.length) : cut (List.replicate t x).flatten (k * x.length + u) (k * x.length + v) = cut x u v := by
  have e : t = k + (t - k) := by omega
  rw [e, ← List.replicate_append_replicate, List.flatten_append]
  obtain ⟨m, hm⟩ : ∃ m, t - k = m + 1 := ⟨t - k - 1, by omega⟩
  rw [hm, List.replicate_succ, List.flatten_cons]
  have hl : ((List.replicate k x).flatten).length = k * x.length := rep_len
  unfold cut
  rw [List.take_append, hl, List.drop_append]
  have z1 : ((List.replicate k x).flatten.take (k * x.length + v)).drop (k * x.length + u) = [] := by
    rw [List.drop_eq_nil_iff, List.length_take, hl]; omega
  rw [z1, List.nil_append, List.length_take, hl]
  have z2 : k * x.length + u - min (k * x.length + v) (k * x.length) = u := by omega
  have z3 : k * x.length + v - k * x.length = v := by omega
  rw [z2, z3, List.take_append_of_le_length hv]
/-- .. one word more -/
theorem rep_step {x : Tx} {t k a b : Nat} (hk : k < t) (h1 : a / x.length ≤ k) (h2 : k * x.length < b) (hb : b ≤ t * x.length) (hab : a < b) (hx : 0 < x.length) :
    cut (List.replicate t x).flatten a (min b (k * x.length)) ++ cut x (a - k * x.length) (min (b - k * x.length) x.length) = cut (List.replicate t x).flatten a (min b ((k + 1) * x.length)) := by
  have ha : a < (k + 1) * x.length := by
    have := Nat.lt_mul_of_div_lt (Nat.lt_succ_of_le h1) hx
    exact this
  rw [Nat.add_mul, Nat.one_mul] at ha
  have e1 : min b (k * x.length) = k * x.length := Nat.min_eq_right (by omega)
  rw [e1, ← rep_cut (t := t) (k := k) (x := x) (u := a - k * x.length) hk (Nat.min_le_right _ _)]
  have e2 : k * x.length + min (b - k * x.length) x.length = min b ((k + 1) * x.length) := by rw [Nat.add_mul, Nat.one_mul]; omega
  rw [e2]
  by_cases hak : a ≤ k * x.length
  · have e3 : k * x.length + (a - k * x.length) = k * x.length := by omega
    rw [e3]
    exact cut_app hak (by rw [Nat.add_mul, Nat.one_mul]; omega)
  · have e3 : k * x.length + (a - k * x.length) = a := by omega
    rw [e3, cut_nil (a := a) (b := k * x.length) (by omega), List.nil_append]
end Sh


set_option Elab.async false
set_option linter.all false
set_option maxRecDepth 100000
set_option maxHeartbeats 4000000
namespace Sh
open PySem PySem.Spec PyProof.Rows L2
/-! the steps, by themselves as far as nothing is to be decided -/
set_option synthInstance.maxSize 4096
set_option synthInstance.maxHeartbeats 400000
local macro_rules | `(tactic| walk_at "sm") => `(tactic| first | assumption | exact Same.refl _ | exact Sm.h | (refine Same.trans ?_ Sm.h; walk_at "sm"))
local macro_rules | `(tactic| walk_at "py1") => `(tactic| first
  | refine go ?_
  | (with_reducible refine py_mulL (by omega) (by omega) ?_) | (with_reducible refine py_mulR (by omega) (by omega) ?_) | (with_reducible refine py_divI (by omega) (by omega) ?_) | (with_reducible refine py_modI (by omega) ?_)
  | (with_reducible refine nSet_mk ?_; intro _ _) | (with_reducible refine nTupF (by simp) ?_; intro _ _ _ _ _ _ _ _) | (with_reducible refine nLstO (by simp) ?_; intro _ _ _ _)
  | (with_reducible refine nRng1_mk (by omega) (by omega) ?_) | (with_reducible refine nRng2_mk (by omega) (by omega) (by omega) (by omega) ?_))
local macro_rules | `(tactic| walk_at "py") => `(tactic| repeat (walk_at "py1"))
def N_rule_length : List Str := ["rule", "lengths", "word"]
theorem st_rule_length {v0 v1 : V} : start N_rule_length [v0, v1] = [some v0, some v1, none] := rfl
def t_rule_length (K : PySem.W.Frag) : TS := (tSeq (tAsg (tOp (rIx K) (tVar 0) (tC (.int 0))) (gName 2)) (tSeq (tIfS (tTest (tOp rEq (tVar 2) (tC (.str "letters")))) (tRet (tCB (rLn K) (tCons (tOp (rIx K) (tVar 0) (tC (.int 1))) tNil))) tNext) (tSeq (tIfS (tTest (tOp rEq (tVar 2) (tC (.str "join")))) (tRet (tOp rAddI (tOp (rIx K) (tVar 1) (tOp (rIx K) (tVar 0) (tC (.int 1)))) (tOp (rIx K) (tVar 1) (tOp (rIx K) (tVar 0) (tC (.int 2)))))) tNext) (tSeq (tIfS (tTest (tOp rEq (tVar 2) (tC (.str "power")))) (tRet (tOp rMulI (tOp (rIx K) (tVar 1) (tOp (rIx K) (tVar 0) (tC (.int 1)))) (tOp (rIx K) (tVar 0) (tC (.int 2))))) tNext) (tSeq (tIfS (tTest (tOp rEq (tVar 2) (tC (.str "part")))) (tRet (tOp rSubI (tOp (rIx K) (tVar 0) (tC (.int 3))) (tOp (rIx K) (tVar 0) (tC (.int 2))))) tNext) (tRet (tOp (rIx K) (tVar 1) (tOp (rIx K) (tVar 0) (tC (.int 1))))))))))
def N_earlier : List Str := ["rule"]
theorem st_earlier {v0 : V} : start N_earlier [v0] = [some v0] := rfl
def t_earlier (K : PySem.W.Frag) : TS := (tSeq (tIfS (tTest (tOp rEq (tOp (rIx K) (tVar 0) (tC (.int 0))) (tC (.str "letters")))) (tRet (tTup tNil)) tNext) (tRet (tIf (tTest (tOp rEq (tOp (rIx K) (tVar 0) (tC (.int 0))) (tC (.str "join")))) (tSl (rSlLT K) (tVar 0) (tPart (tC (.int 1))) (tPart (tC (.int 3)))) (tSl (rSlLT K) (tVar 0) (tPart (tC (.int 1))) (tPart (tC (.int 2)))))))
def N_fault : List Str := ["rule", "lengths", "word", "is_allowed", "letter", "number"]
theorem st_fault {v0 v1 : V} : start N_fault [v0, v1] = [some v0, some v1, none, none, none, none] := rfl
def t_fault (K : PySem.W.Frag) (sp_earlier : Sp) (sp_rule_length : Sp) : TS := (tSeq (tAsg (tIf (tTru K (tVar 0)) (tOp (rIx K) (tVar 0) (tC (.int 0))) (tC (.str ""))) (gName 2)) (tSeq (tIfS (tTest (tOp (rNotInK K (He.ga K "SIZES")) (tVar 2) (tC (.ref (He.ga K "SIZES"))))) (tRet (tC (.str "word"))) tNext) (tSeq (tIfS (tTest (tOp rNe (tCB (rLn K) (tCons (tVar 0) tNil)) (tOp (rIxK K (He.ga K "SIZES")) (tC (.ref (He.ga K "SIZES"))) (tVar 2)))) (tRet (tC (.str "length"))) tNext) (tSeq (tIfS (tTest (tOp rEq (tVar 2) (tC (.str "letters")))) (tSeq (tAsg (tAndV (tOp rLeI (tCB (rLn K) (tCons (tOp (rIx K) (tVar 0) (tC (.int 1))) tNil)) (tC (.int 64))) (tCB (rAll K) (tCons (tLc (iStr (tOp (rIx K) (tVar 0) (tC (.int 1)))) (gName 4) tYes (tOp rInSign (tVar 4) (tC (.str " !\"#$&'()*+,-./0123456789:;<=>?@ABCDEFGHIJKLMNOPQRSTUVWXYZ[\\]^_`abcdefghijklmnopqrstuvwxyz{|}~"))) [4]) tNil))) (gName 3)) (tRet (tIf (tTru K (tVar 3)) (tC .non) (tC (.str "letters"))))) tNext) (tSeq (tIfS (tNot (tB (tCB (rAll K) (tCons (tLc (iLT K (tCall sp_earlier [] E0 (tCons (tVar 0) tNil))) (gName 5) tYes (tChain rLeI rLtI (tC (.int 0)) (tVar 5) (tCB (rLn K) (tCons (tVar 1) tNil))) [5]) tNil)))) (tRet (tC (.str "rule"))) tNext) (tSeq (tIfS (tAnd (tTest (tOp rEq (tVar 2) (tC (.str "power")))) (tNot (tTest (tChain rLeI rLeI (tC (.int 0)) (tOp (rIx K) (tVar 0) (tC (.int 2))) (tC (.int 1000000000000)))))) (tRet (tC (.str "power"))) tNext) (tSeq (tIfS (tAnd (tTest (tOp rEq (tVar 2) (tC (.str "part")))) (tNot (tTest (tChain3 rLeI rLeI rLeI (tC (.int 0)) (tOp (rIx K) (tVar 0) (tC (.int 2))) (tOp (rIx K) (tVar 0) (tC (.int 3))) (tOp (rIx K) (tVar 1) (tOp (rIx K) (tVar 0) (tC (.int 1)))))))) (tRet (tC (.str "part"))) tNext) (tRet (tIf (tTest (tOp rGtI (tCall sp_rule_length [] E0 (tCons (tVar 0) (tCons (tVar 1) tNil))) (tC (.int 1000000000000)))) (tC (.str "large")) (tC .non))))))))))
def N_lengths_of : List Str := ["rules", "lengths", "rule"]
theorem st_lengths_of {v0 : V} : start N_lengths_of [v0] = [some v0, none, none] := rfl
def t_lengths_of (K : PySem.W.Frag) (sp_rule_length : Sp) : TS := (tSeq (tAsg (tLst tNil) (gName 1)) (tSeq (tFor (iTup K (tVar 0)) (gName 2) (tDrop (tBM K "list" rAppend (tVar 1) (tCons (tCall sp_rule_length [] E0 (tCons (tVar 2) (tCons (tVar 1) tNil))) tNil)))) (tRet (tCB (rTupleOf K) (tCons (tVar 1) tNil)))))
def N_check_rules : List Str := ["rules", "lengths", "number", "rule", "reason"]
theorem st_check_rules {v0 : V} : start N_check_rules [v0] = [some v0, none, none, none, none] := rfl
def t_check_rules (K : PySem.W.Frag) (sp_fault : Sp) (sp_rule_length : Sp) : TS := (tSeq (tIfS (tNot (tTest (tChain rLeI rLeI (tC (.int 1)) (tCB (rLn K) (tCons (tVar 0) tNil)) (tC (.int 60))))) tDead tNext) (tSeq (tAsg (tLst tNil) (gName 1)) (tFor (iEnum K (tCons (tVar 0) tNil)) (gTup K 2 (gCons (gName 2) (gCons (gName 3) gNil))) (tSeq (tAsg (tCall sp_fault [] E0 (tCons (tVar 3) (tCons (tVar 1) tNil))) (gName 4)) (tSeq (tIfS (tTest (tOp rNotNone (tVar 4) (tC .non))) tDead tNext) (tDrop (tBM K "list" rAppend (tVar 1) (tCons (tCall sp_rule_length [] E0 (tCons (tVar 3) (tCons (tVar 1) tNil))) tNil))))))))
open SX (S)
/-! ### rules: length, earlier ones, faults -/
section
variable (K : PySem.W.Frag)
def sp_rule_length : Sp := fun vs H Q _ => ∃ (F : Hp) (M : Ow) (a q : Addr) (r : Ru) (ts : List Tx), Hs F M H ∧ vs = [.ref a, .ref q] ∧ (SqL K F a (ruV r) ∨ SqT K F a (ruV r)) ∧ Im M q (.lst (lens ts)) ∧ RuK ts.length ts r ∧ (∀ i, (gt ts i).length ≤ 1000000000000) ∧
  Q (.int ((ruT ts r).length : Int)) H
/-- the earlier rules that a rule names -/
def refs : Ru → List V
  | .wri _ => []
  | .join i j => [.int (i : Int), .int (j : Int)]
  | .power i _ => [.int (i : Int)]
  | .part i _ _ => [.int (i : Int)]
  | .back i => [.int (i : Int)]
def sp_earlier : Sp := fun vs H Q _ => ∃ (F : Hp) (M : Ow) (a : Addr) (r : Ru), Hs F M H ∧ vs = [.ref a] ∧ (SqL K F a (ruV r) ∨ SqT K F a (ruV r)) ∧
  ∀ t F' H', Same F F' → Hs F' M H' → FzS K F' t (refs r) → Q (.ref t) H'
/-- a rule without a fault -/
def sp_fault : Sp := fun vs H Q _ => ∃ (F : Hp) (M : Ow) (a q : Addr) (r : Ru) (ts : List Tx), Hs F M H ∧ vs = [.ref a, .ref q] ∧ (SqL K F a (ruV r) ∨ SqT K F a (ruV r)) ∧ Im M q (.lst (lens ts)) ∧ RuK ts.length ts r ∧ (∀ i, (gt ts i).length ≤ 1000000000000) ∧
  (ruT ts r).length ≤ 1000000000000 ∧ ∀ F' H', Same F F' → Hs F' M H' → Q .non H'
def sp_lengths_of : Sp := fun vs H Q _ => ∃ (F : Hp) (M : Ow) (a : Addr) (vr : List V) (rs : List Ru) (ts : List Tx), Hs F M H ∧ vs = [.ref a] ∧ SqT K F a vr ∧ DpAll K F vr (rs.map ruD) ∧ Tab rs ts ∧ rs.length ≤ 1000 ∧
  ∀ t F' H', Same F F' → Hs F' M H' → FzT K F' t (lens ts) → Q (.ref t) H'
/-- rules without faults; a list of them -/
def sp_check_rules : Sp := fun vs H Q _ => ∃ (F : Hp) (M : Ow) (a : Addr) (vr : List V) (rs : List Ru) (ts : List Tx), Hs F M H ∧ vs = [.ref a] ∧ SqL K F a vr ∧ Pas K F vr rs ∧ Tab rs ts ∧ 1 ≤ rs.length ∧ rs.length ≤ 60 ∧
  ∀ F' H', Same F F' → Hs F' M H' → Q .non H'
class SzT : Prop where
  l : Tv K (He.ga K "SIZES") "letters" (.int 2)
  j : Tv K (He.ga K "SIZES") "join" (.int 3)
  p : Tv K (He.ga K "SIZES") "power" (.int 3)
  c : Tv K (He.ga K "SIZES") "part" (.int 4)
  b : Tv K (He.ga K "SIZES") "back" (.int 2)
end
section
variable {K : PySem.W.Frag}
instance [z : SzT K] : Tv K (He.ga K "SIZES") "letters" (.int 2) := z.l
instance [z : SzT K] : Tv K (He.ga K "SIZES") "join" (.int 3) := z.j
instance [z : SzT K] : Tv K (He.ga K "SIZES") "power" (.int 3) := z.p
instance [z : SzT K] : Tv K (He.ga K "SIZES") "part" (.int 4) := z.c
instance [z : SzT K] : Tv K (He.ga K "SIZES") "back" (.int 2) := z.b
theorem pure_rule_length (vs : List V) (H : Hp) (Q : VK) (E : XK) (h : sp_rule_length K vs H Q E) : t_rule_length K { nx := fun _ H' => Q .non H', rt := Q } (start N_rule_length vs) H := by
  obtain ⟨F, M, a, q, r, ts, hs, rfl, hr, hq, hk, hl, k⟩ := h
  unfold t_rule_length
  rw [st_rule_length]
  cases r with
  | wri w =>
    have : FzS K F a [.str "letters", .str (S w)] := ⟨hr⟩
    walk_at "py"
    exact nLnT (by have := hk.1; omega) k
  | join i j =>
    have : FzS K F a [.str "join", .int (i : Int), .int (j : Int)] := ⟨hr⟩
    obtain ⟨h1, h2⟩ := hk
    walk_at "py"
    refine nIxO (lens_at h1) ?_
    walk_at "py"
    refine nIxO (lens_at h2) ?_
    walk_at "py"
    rw [show ((ruT ts (.join i j)).length : Int) = (gt ts i).length + (gt ts j).length by simp [ruT]] at k
    exact k
  | power i t =>
    have : FzS K F a [.str "power", .int (i : Int), .int (t : Int)] := ⟨hr⟩
    obtain ⟨h1, h2⟩ := hk
    have := hl i
    walk_at "py"
    refine nIxO (lens_at h1) ?_
    walk_at "py"
    rw [show ((ruT ts (.power i t)).length : Int) = (gt ts i).length * (t : Int) by rw [← Int.natCast_mul, Nat.mul_comm]; show (((List.replicate t (gt ts i)).flatten).length : Int) = _; rw [rep_len]] at k
    exact k
  | part i b c =>
    have : FzS K F a [.str "part", .int (i : Int), .int (b : Int), .int (c : Int)] := ⟨hr⟩
    obtain ⟨h1, h2, h3⟩ := hk
    walk_at "py"
    rw [show ((ruT ts (.part i b c)).length : Int) = (c : Int) - (b : Int) by rw [show (ruT ts (.part i b c)).length = c - b from cut_len h3]; omega] at k
    exact k
  | back i =>
    have : FzS K F a [.str "back", .int (i : Int)] := ⟨hr⟩
    have h1 : i < ts.length := hk
    walk_at "py"
    refine nIxO (lens_at h1) ?_
    rw [show ((ruT ts (.back i)).length : Int) = (gt ts i).length by simp [ruT]] at k
    exact k
theorem pure_earlier (vs : List V) (H : Hp) (Q : VK) (E : XK) (h : sp_earlier K vs H Q E) : t_earlier K { nx := fun _ H' => Q .non H', rt := Q } (start N_earlier vs) H := by
  obtain ⟨F, M, a, r, hs, rfl, hr, k⟩ := h
  unfold t_earlier
  rw [st_earlier]
  cases r with
  | wri w =>
    have : FzS K F a [.str "letters", .str (S w)] := ⟨hr⟩
    walk_at "py"
    rename_i p F' H' hp hF hs' hT hz
    exact k p F' H' hF.h hs' ⟨.inr (hT K).h⟩
  | join i j =>
    have : FzS K F a [.str "join", .int (i : Int), .int (j : Int)] := ⟨hr⟩
    walk_at "py"
    exact nSlLT (ys := [.int (i : Int), .int (j : Int)]) (by simp [HT.sIx]) rfl fun t F' H' _ hF hs' hT => k t F' H' hF.h hs' hT
  | power i t =>
    have : FzS K F a [.str "power", .int (i : Int), .int (t : Int)] := ⟨hr⟩
    walk_at "py"
    exact nSlLT (ys := [.int (i : Int)]) (by simp [HT.sIx]) rfl fun t F' H' _ hF hs' hT => k t F' H' hF.h hs' hT
  | part i b c =>
    have : FzS K F a [.str "part", .int (i : Int), .int (b : Int), .int (c : Int)] := ⟨hr⟩
    walk_at "py"
    exact nSlLT (ys := [.int (i : Int)]) (by simp [HT.sIx]) rfl fun t F' H' _ hF hs' hT => k t F' H' hF.h hs' hT
  | back i =>
    have : FzS K F a [.str "back", .int (i : Int)] := ⟨hr⟩
    walk_at "py"
    exact nSlLT (ys := [.int (i : Int)]) (by simp [HT.sIx]) rfl fun t F' H' _ hF hs' hT => k t F' H' hF.h hs' hT
end
section
variable {K : PySem.W.Frag}
theorem all_true {n : Nat} : ((List.replicate n true).all id) = true := by rw [List.all_replicate]; simp
/-- a rule's own words, before its kind is known -/
theorem pure_fault [SzT K] (vs : List V) (H : Hp) (Q : VK) (E : XK) (h : sp_fault K vs H Q E) : t_fault K (sp_earlier K) (sp_rule_length K) { nx := fun _ H' => Q .non H', rt := Q } (start N_fault vs) H := by
  obtain ⟨F, M, a, q, r, ts, hs, rfl, hr, hq, hk, hl, hle, k⟩ := h
  unfold t_fault
  rw [st_fault]
  cases r with
  | wri w =>
    have : FzS K F a [.str "letters", .str (S w)] := ⟨hr⟩
    obtain ⟨h1, h2⟩ := hk
    walk_at "py"
    refine ifNF rfl ?_
    walk_at "py"
    refine nLnT (by omega) ?_
    walk_at "py"
    refine ifPT (by omega) ?_
    walk_at "py"
    refine nCompS (fun i acc F' M' => M' = M ∧ acc = List.replicate i (V.bl true)) ⟨rfl, rfl⟩ ?_ ?_
    · rintro i c acc D F' M' H' hi hF hs' ⟨rfl, rfl⟩
      have hm : c ∈ signs := h2 c (List.mem_of_getElem? hi)
      have hil := (List.getElem?_eq_some_iff.mp hi).1
      rw [signs_eq]
      walk_at "py"
      rw [decide_eq_true hm]
      exact .mk (by walk_at "sm") hs' (by simp; omega) ⟨rfl, by rw [List.replicate_succ']⟩
    · rintro D acc F' M' H' hD hF hs' ⟨rfl, rfl⟩
      walk_at "py"
      refine nAllT ?_
      walk_at "py"
      exact k F' H' hF.h (hs'.drop 0)
  | join i j =>
    have : FzS K F a [.str "join", .int (i : Int), .int (j : Int)] := ⟨hr⟩
    obtain ⟨h1, h2⟩ := hk
    walk_at "py"
    refine ifNF rfl ?_
    walk_at "py"
    refine ⟨F, M, a, .join i j, hs, rfl, hr, fun t F1 H1 e1 hs1 hT => ?_⟩
    have : Sm F F1 := ⟨e1⟩
    walk_at "py"
    refine nCompLT (fun i acc F' M' => M' = M ∧ acc = List.replicate i (V.bl true)) ⟨rfl, rfl⟩ ?_ ?_
    · rintro m x acc D F' M' H' hi hF hs' ⟨rfl, rfl⟩
      have hx : ∃ z : Nat, x = .int (z : Int) ∧ z < ts.length := by
        match m, hi with
        | 0, hi => cases hi; exact ⟨i, rfl, h1⟩
        | 1, hi => cases hi; exact ⟨j, rfl, h2⟩
        | _ + 2, hi => cases hi
      obtain ⟨z, rfl, hz⟩ := hx
      have hm := (List.getElem?_eq_some_iff.mp hi).1
      have hm2 : m < 2 := hm
      walk_at "py"
      refine ifPT (by omega) ?_
      walk_at "py"
      rw [lens_len, decide_eq_true (show (z : Int) < (ts.length : Int) by omega)]
      exact .mk (by walk_at "sm") hs' (by simp; omega) ⟨rfl, by rw [List.replicate_succ']⟩
    · rintro D acc F' M' H' hD hF hs' ⟨rfl, rfl⟩
      walk_at "py"
      refine nAllT ?_
      have hs2 := hs'.drop 0
      simp only [List.eraseIdx_cons_zero] at hs2
      walk_at "py"
      refine ⟨F', _, a, q, .join i j, ts, hs2, rfl, hr.imp (fun z => same_l (e1.trans hF.h) z) (fun z => same_t (e1.trans hF.h) z), hq, ⟨h1, h2⟩, hl, ?_⟩
      walk_at "py"
      refine ifPF (by omega) ?_
      walk_at "py"
      exact k F' H' (e1.trans hF.h) hs2
  | power i t =>
    have : FzS K F a [.str "power", .int (i : Int), .int (t : Int)] := ⟨hr⟩
    obtain ⟨h1, h2⟩ := hk
    walk_at "py"
    refine ifNF rfl ?_
    walk_at "py"
    refine ⟨F, M, a, .power i t, hs, rfl, hr, fun t' F1 H1 e1 hs1 hT => ?_⟩
    have : Sm F F1 := ⟨e1⟩
    walk_at "py"
    refine nCompLT (fun i acc F' M' => M' = M ∧ acc = List.replicate i (V.bl true)) ⟨rfl, rfl⟩ ?_ ?_
    · rintro m x acc D F' M' H' hi hF hs' ⟨rfl, rfl⟩
      have hx : ∃ z : Nat, x = .int (z : Int) ∧ z < ts.length := by
        match m, hi with
        | 0, hi => cases hi; exact ⟨i, rfl, h1⟩
        | _ + 1, hi => cases hi
      obtain ⟨z, rfl, hz⟩ := hx
      have hm := (List.getElem?_eq_some_iff.mp hi).1
      have hm2 : m < 1 := hm
      walk_at "py"
      refine ifPT (by omega) ?_
      walk_at "py"
      rw [lens_len, decide_eq_true (show (z : Int) < (ts.length : Int) by omega)]
      exact .mk (by walk_at "sm") hs' (by simp; omega) ⟨rfl, by rw [List.replicate_succ']⟩
    · rintro D acc F' M' H' hD hF hs' ⟨rfl, rfl⟩
      walk_at "py"
      refine nAllT ?_
      have hs2 := hs'.drop 0
      simp only [List.eraseIdx_cons_zero] at hs2
      walk_at "py"
      refine ifPT (by omega) ?_
      walk_at "py"
      rw [decide_eq_true (show (t : Int) ≤ 1000000000000 by omega)]
      walk_at "py"
      refine ⟨F', _, a, q, .power i t, ts, hs2, rfl, hr.imp (fun z => same_l (e1.trans hF.h) z) (fun z => same_t (e1.trans hF.h) z), hq, ⟨h1, h2⟩, hl, ?_⟩
      walk_at "py"
      refine ifPF (by omega) ?_
      walk_at "py"
      exact k F' H' (e1.trans hF.h) hs2
  | part i b c =>
    have : FzS K F a [.str "part", .int (i : Int), .int (b : Int), .int (c : Int)] := ⟨hr⟩
    obtain ⟨h1, h2, h3⟩ := hk
    walk_at "py"
    refine ifNF rfl ?_
    walk_at "py"
    refine ⟨F, M, a, .part i b c, hs, rfl, hr, fun t' F1 H1 e1 hs1 hT => ?_⟩
    have : Sm F F1 := ⟨e1⟩
    walk_at "py"
    refine nCompLT (fun i acc F' M' => M' = M ∧ acc = List.replicate i (V.bl true)) ⟨rfl, rfl⟩ ?_ ?_
    · rintro m x acc D F' M' H' hi hF hs' ⟨rfl, rfl⟩
      have hx : ∃ z : Nat, x = .int (z : Int) ∧ z < ts.length := by
        match m, hi with
        | 0, hi => cases hi; exact ⟨i, rfl, h1⟩
        | _ + 1, hi => cases hi
      obtain ⟨z, rfl, hz⟩ := hx
      have hm := (List.getElem?_eq_some_iff.mp hi).1
      have hm2 : m < 1 := hm
      walk_at "py"
      refine ifPT (by omega) ?_
      walk_at "py"
      rw [lens_len, decide_eq_true (show (z : Int) < (ts.length : Int) by omega)]
      exact .mk (by walk_at "sm") hs' (by simp; omega) ⟨rfl, by rw [List.replicate_succ']⟩
    · rintro D acc F' M' H' hD hF hs' ⟨rfl, rfl⟩
      walk_at "py"
      refine nAllT ?_
      have hs2 := hs'.drop 0
      simp only [List.eraseIdx_cons_zero] at hs2
      walk_at "py"
      refine ifPT (by omega) ?_
      walk_at "py"
      refine ifPT (by omega) ?_
      walk_at "py"
      refine nIxO (lens_at h1) ?_
      walk_at "py"
      rw [decide_eq_true (show (c : Int) ≤ ((gt ts i).length : Int) by omega)]
      walk_at "py"
      refine ⟨F', _, a, q, .part i b c, ts, hs2, rfl, hr.imp (fun z => same_l (e1.trans hF.h) z) (fun z => same_t (e1.trans hF.h) z), hq, ⟨h1, h2, h3⟩, hl, ?_⟩
      walk_at "py"
      refine ifPF (by omega) ?_
      walk_at "py"
      exact k F' H' (e1.trans hF.h) hs2
  | back i =>
    have : FzS K F a [.str "back", .int (i : Int)] := ⟨hr⟩
    have h1 : i < ts.length := hk
    walk_at "py"
    refine ifNF rfl ?_
    walk_at "py"
    refine ⟨F, M, a, .back i, hs, rfl, hr, fun t' F1 H1 e1 hs1 hT => ?_⟩
    have : Sm F F1 := ⟨e1⟩
    walk_at "py"
    refine nCompLT (fun i acc F' M' => M' = M ∧ acc = List.replicate i (V.bl true)) ⟨rfl, rfl⟩ ?_ ?_
    · rintro m x acc D F' M' H' hi hF hs' ⟨rfl, rfl⟩
      have hx : ∃ z : Nat, x = .int (z : Int) ∧ z < ts.length := by
        match m, hi with
        | 0, hi => cases hi; exact ⟨i, rfl, h1⟩
        | _ + 1, hi => cases hi
      obtain ⟨z, rfl, hz⟩ := hx
      have hm := (List.getElem?_eq_some_iff.mp hi).1
      have hm2 : m < 1 := hm
      walk_at "py"
      refine ifPT (by omega) ?_
      walk_at "py"
      rw [lens_len, decide_eq_true (show (z : Int) < (ts.length : Int) by omega)]
      exact .mk (by walk_at "sm") hs' (by simp; omega) ⟨rfl, by rw [List.replicate_succ']⟩
    · rintro D acc F' M' H' hD hF hs' ⟨rfl, rfl⟩
      walk_at "py"
      refine nAllT ?_
      have hs2 := hs'.drop 0
      simp only [List.eraseIdx_cons_zero] at hs2
      walk_at "py"
      refine ⟨F', _, a, q, .back i, ts, hs2, rfl, hr.imp (fun z => same_l (e1.trans hF.h) z) (fun z => same_t (e1.trans hF.h) z), hq, h1, hl, ?_⟩
      walk_at "py"
      refine ifPF (by omega) ?_
      walk_at "py"
      exact k F' H' (e1.trans hF.h) hs2
end
section
variable {K : PySem.W.Frag}
theorem pure_lengths_of (vs : List V) (H : Hp) (Q : VK) (E : XK) (h : sp_lengths_of K vs H Q E) : t_lengths_of K (sp_rule_length K) { nx := fun _ H' => Q .non H', rt := Q } (start N_lengths_of vs) H := by
  obtain ⟨F, M, a, vr, rs, ts, hs, rfl, hv, hd, hT, hl, k⟩ := h
  have : FzT K F a vr := ⟨hv⟩
  have hvl := dpa_len hd
  rw [List.length_map] at hvl
  have htl := hT.ln
  unfold t_lengths_of
  rw [st_lengths_of]
  walk_at "py"
  rename_i q H1 hq hs1
  refine nLoopT (fun i σ' F' M' => M' = (q, HO.lst (lens (ts.take i))) :: M ∧ ∃ w, σ' = [some (.ref a), some (.ref q), w]) ⟨rfl, none, rfl⟩ ?_ ?_
  · rintro i x σ' F' M' H' hi hF hs' ⟨rfl, w, rfl⟩
    have hil := (List.getElem?_eq_some_iff.mp hi).1
    have hr := List.getElem?_eq_getElem (l := rs) (i := i) (by omega)
    obtain ⟨b, hb, hbS⟩ := dp_rus hd hr
    rw [hi] at hb; cases hb
    obtain ⟨k1, k2, k3⟩ := hT.pre hr
    walk_at "py"
    refine ⟨F', _, b, q, _, ts.take i, hs', rfl, .inr (same_t hF.h hbS), im0, by rw [k3]; exact k1, gt_take_le hT.le i, ?_⟩
    walk_at "py"
    refine nAppend (by rw [lens_len, k3]; omega) fun H2 hs2 => ?_
    refine .mk (by walk_at "sm") hs2 ⟨?_, _, rfl⟩
    rw [take_one (at_gt (by omega)), lens_snoc, k2]
  · rintro σ' F' M' H' hF hs' ⟨rfl, w, rfl⟩
    walk_at "py"
    refine nTupleOfO fun t F2 H2 ht hF2 hs2 hT2 hz2 => ?_
    rw [List.take_of_length_le (by omega)] at hT2
    exact k t F2 H2 (hF.h.trans hF2.h) (hs2.drop 0) hT2
theorem pure_check_rules [SzT K] (vs : List V) (H : Hp) (Q : VK) (E : XK) (h : sp_check_rules K vs H Q E) : t_check_rules K (sp_fault K) (sp_rule_length K) { nx := fun _ H' => Q .non H', rt := Q } (start N_check_rules vs) H := by
  obtain ⟨F, M, a, vr, rs, ts, hs, rfl, hv, hd, hT, hl1, hl2, k⟩ := h
  have : FzL K F a vr := ⟨hv⟩
  have hvl := hd.1
  have htl := hT.ln
  unfold t_check_rules
  rw [st_check_rules]
  walk_at "py"
  refine ifPT (by omega) ?_
  walk_at "py"
  refine ifNF (by omega) ?_
  walk_at "py"
  rename_i q H1 hq hs1
  refine nLoopE (fun i σ' F' M' => M' = (q, HO.lst (lens (ts.take i))) :: M ∧ ∃ w1 w2 w3, σ' = [some (.ref a), some (.ref q), w1, w2, w3]) ⟨rfl, none, none, none, rfl⟩ ?_ ?_ ?_
  · rintro i x T σ' F' M' H' hi hF hs' hTT ⟨rfl, w1, w2, w3, rfl⟩
    have hil := (List.getElem?_eq_some_iff.mp hi).1
    have hr := List.getElem?_eq_getElem (l := rs) (i := i) (by omega)
    obtain ⟨b, rfl, hb⟩ := hd.2 i x _ hi hr
    obtain ⟨k1, k2, k3⟩ := hT.pre hr
    walk_at "py"
    have hb' : SqL K F' b (ruV rs[i]) ∨ SqT K F' b (ruV rs[i]) := hb.imp (same_l hF.h) (same_t hF.h)
    refine ⟨F', _, b, q, _, ts.take i, hs', rfl, hb', im0, by rw [k3]; exact k1, gt_take_le hT.le i, by rw [k2]; exact hT.le i, fun F2 H2 e2 hs2 => ?_⟩
    have : Sm F' F2 := ⟨e2⟩
    walk_at "py"
    refine ⟨F2, _, b, q, _, ts.take i, hs2, rfl, hb'.imp (same_l e2) (same_t e2), im0, by rw [k3]; exact k1, gt_take_le hT.le i, ?_⟩
    walk_at "py"
    refine nAppend (by rw [lens_len, k3]; omega) fun H3 hs3 => ?_
    refine .mk (hF.h.trans e2) hs3 ⟨?_, _, _, _, rfl⟩
    rw [take_one (at_gt (by omega)), lens_snoc, k2]
  · rintro σ' F' M' H' hF hs' ⟨rfl, w1, w2, w3, rfl⟩
    exact k F' H' hF.h (hs'.drop 0)
  · rintro i σ' F1 F2 M' e ⟨h1, h2⟩
    exact ⟨h1, h2⟩
end
end Sh


set_option Elab.async false
set_option linter.all false
set_option maxRecDepth 100000
set_option maxHeartbeats 4000000
namespace Sh
open PySem PySem.Spec PyProof.Rows L2
/-! the steps, by themselves as far as nothing is to be decided -/
set_option synthInstance.maxSize 4096
set_option synthInstance.maxHeartbeats 400000
local macro_rules | `(tactic| walk_at "sm") => `(tactic| first | assumption | exact Same.refl _ | exact Sm.h | (refine Same.trans ?_ Sm.h; walk_at "sm"))
local macro_rules | `(tactic| walk_at "py1") => `(tactic| first
  | refine go ?_
  | (with_reducible refine py_mulL (by omega) (by omega) ?_) | (with_reducible refine py_mulR (by omega) (by omega) ?_) | (with_reducible refine py_divI (by omega) (by omega) ?_) | (with_reducible refine py_modI (by omega) ?_)
  | (with_reducible refine nSet_mk ?_; intro _ _) | (with_reducible refine nTupF (by simp) ?_; intro _ _ _ _ _ _ _ _) | (with_reducible refine nLstO (by simp) ?_; intro _ _ _ _)
  | (with_reducible refine nRng1_mk (by omega) (by omega) ?_) | (with_reducible refine nRng2_mk (by omega) (by omega) (by omega) (by omega) ?_))
local macro_rules | `(tactic| walk_at "py") => `(tactic| repeat (walk_at "py1"))
def N_BadRules_init : List Str := ["self", "number", "reason"]
theorem st_BadRules_init {v0 v1 v2 : V} : start N_BadRules_init [v0, v1, v2] = [some v0, some v1, some v2] := rfl
def t_BadRules_init (K : PySem.W.Frag) : TS := (tSeq (tOst K "number" (tVar 0) (tVar 1)) (tOst K "reason" (tVar 0) (tVar 2)))
def N_NoPlace_init : List Str := ["self", "place"]
theorem st_NoPlace_init {v0 v1 : V} : start N_NoPlace_init [v0, v1] = [some v0, some v1] := rfl
def t_NoPlace_init (K : PySem.W.Frag) : TS := (tOst K "place" (tVar 0) (tVar 1))
def N_NoPart_init : List Str := ["self", "start", "stop"]
theorem st_NoPart_init {v0 v1 v2 : V} : start N_NoPart_init [v0, v1, v2] = [some v0, some v1, some v2] := rfl
def t_NoPart_init (K : PySem.W.Frag) : TS := (tSeq (tOst K "start" (tVar 0) (tVar 1)) (tOst K "stop" (tVar 0) (tVar 2)))
def N_inner_place : List Str := ["rule", "lengths", "place", "word", "first", "many"]
theorem st_inner_place {v0 v1 v2 : V} : start N_inner_place [v0, v1, v2] = [some v0, some v1, some v2, none, none, none] := rfl
def t_inner_place (K : PySem.W.Frag) : TS := (tSeq (tAsg (tOp (rIx K) (tVar 0) (tC (.int 0))) (gName 3)) (tSeq (tIfS (tTest (tOp rEq (tVar 3) (tC (.str "join")))) (tSeq (tAsg (tOp (rIx K) (tVar 1) (tOp (rIx K) (tVar 0) (tC (.int 1)))) (gName 4)) (tRet (tIf (tTest (tOp rLtI (tVar 2) (tVar 4))) (tTup (tCons (tOp (rIx K) (tVar 0) (tC (.int 1))) (tCons (tVar 2) tNil))) (tTup (tCons (tOp (rIx K) (tVar 0) (tC (.int 2))) (tCons (tOp rSubI (tVar 2) (tVar 4)) tNil)))))) tNext) (tSeq (tIfS (tTest (tOp rEq (tVar 3) (tC (.str "power")))) (tSeq (tAsg (tOp (rIx K) (tVar 1) (tOp (rIx K) (tVar 0) (tC (.int 1)))) (gName 5)) (tRet (tTup (tCons (tOp (rIx K) (tVar 0) (tC (.int 1))) (tCons (tOp rSubI (tVar 2) (tOp rMulI (tVar 5) (tOp rDivI (tVar 2) (tVar 5)))) tNil))))) tNext) (tSeq (tIfS (tTest (tOp rEq (tVar 3) (tC (.str "part")))) (tRet (tTup (tCons (tOp (rIx K) (tVar 0) (tC (.int 1))) (tCons (tOp rAddI (tVar 2) (tOp (rIx K) (tVar 0) (tC (.int 2)))) tNil)))) tNext) (tRet (tTup (tCons (tOp (rIx K) (tVar 0) (tC (.int 1))) (tCons (tOp rSubI (tOp rSubI (tOp (rIx K) (tVar 1) (tOp (rIx K) (tVar 0) (tC (.int 1)))) (tC (.int 1))) (tVar 2)) tNil))))))))
def N_Text_init : List Str := ["self", "rules", "rule"]
theorem st_Text_init {v0 v1 : V} : start N_Text_init [v0, v1] = [some v0, some v1, none] := rfl
def t_Text_init (K : PySem.W.Frag) (sp_check_rules : Sp) (sp_lengths_of : Sp) : TS := (tSeq (tDrop (tCall sp_check_rules [] E0 (tCons (tVar 1) tNil))) (tSeq (sFld K (tVar 0) (tCB (rTupleOf K) (tCons (tLc (iLT K (tVar 1)) (gName 2) tYes (tCB (rTupleOf K) (tCons (tVar 2) tNil)) [2]) tNil)) "rules") (tSeq (sFld K (tVar 0) (tCall sp_lengths_of [] E0 (tCons (tFld K (tVar 0) "rules") tNil)) "lengths") (sFld K (tVar 0) (tOp (rIx K) (tFld K (tVar 0) "lengths") (tUn rNegI (tC (.int 1)))) "length"))))
def N_Text_letter : List Str := ["self", "place", "rule", "number"]
theorem st_Text_letter {v0 v1 : V} : start N_Text_letter [v0, v1] = [some v0, some v1, none, none] := rfl
def t_Text_letter (K : PySem.W.Frag) (sp_NoPlace_init : Sp) (sp_inner_place : Sp) (E : XK) : TS := (tSeq (tIfS (tNot (tTest (tChain rLeI rLtI (tC (.int 0)) (tVar 1) (tFld K (tVar 0) "length")))) (tRaiseO (He.ga K "NoPlace") sp_NoPlace_init E (tCons (tVar 1) tNil)) tNext) (tSeq (tAsg (tOp (rIx K) (tFld K (tVar 0) "rules") (tUn rNegI (tC (.int 1)))) (gName 2)) (tSeq (tWhile (tTest (tOp rNe (tOp (rIx K) (tVar 2) (tC (.int 0))) (tC (.str "letters")))) (tSeq (tAsg (tCall sp_inner_place [] E0 (tCons (tVar 2) (tCons (tFld K (tVar 0) "lengths") (tCons (tVar 1) tNil)))) (gTup K 2 (gCons (gName 3) (gCons (gName 1) gNil)))) (tAsg (tOp (rIx K) (tFld K (tVar 0) "rules") (tVar 3)) (gName 2)))) (tRet (tOp (rIx K) (tOp (rIx K) (tVar 2) (tC (.int 1))) (tVar 1))))))
def N_Text_check_part : List Str := ["self", "start", "stop"]
theorem st_Text_check_part {v0 v1 v2 : V} : start N_Text_check_part [v0, v1, v2] = [some v0, some v1, some v2] := rfl
def t_Text_check_part (K : PySem.W.Frag) (sp_NoPart_init : Sp) (E : XK) : TS := (tIfS (tNot (tTest (tChain3 rLeI rLeI rLeI (tC (.int 0)) (tVar 1) (tVar 2) (tFld K (tVar 0) "length")))) (tRaiseO (He.ga K "NoPart") sp_NoPart_init E (tCons (tVar 1) (tCons (tVar 2) tNil))) tNext)
open SX (S)
/-! ### the class Text -/
def ns_Text : List Str := ["rules", "lengths", "length"]
instance : Fx ns_Text "rules" 0 := ⟨rfl⟩
instance : Fx ns_Text "lengths" 1 := ⟨rfl⟩
instance : Fx ns_Text "length" 2 := ⟨rfl⟩
instance : Nf ns_Text "letter" := ⟨by decide +kernel⟩
instance : Nf ns_Text "letters" := ⟨by decide +kernel⟩
instance : Nf ns_Text "check_part" := ⟨by decide +kernel⟩
/-- the text of the last rule -/
def whole (ts : List Tx) : Tx := gt ts (ts.length - 1)
structure TxO (K : PySem.W.Frag) (F : Hp) (a : Addr) (rs : List Ru) (ts : List Tx) : Prop where
  tab : Tab rs ts
  ne : 1 ≤ rs.length
  le : rs.length ≤ 1000
  ob : ∃ dx p q vr, F a = some (Ob (He.ga K "Text") dx ns_Text [.ref p, .ref q, .int ((whole ts).length : Int)]) ∧ SqT K F p vr ∧ DpAll K F vr (rs.map ruD) ∧ SqT K F q (lens ts)
theorem TxO.mono {K : PySem.W.Frag} {F F' : Hp} {a : Addr} {rs : List Ru} {ts : List Tx} (e : Same F F') (h : TxO K F a rs ts) : TxO K F' a rs ts := by
  obtain ⟨dx, p, q, vr, h1, h2, h3, h4⟩ := h.ob
  exact ⟨h.tab, h.ne, h.le, dx, p, q, vr, e _ _ h1, same_t e h2, dpa_mono e h3, same_t e h4⟩
theorem TxO.whole_eq {K : PySem.W.Frag} {F : Hp} {a : Addr} {rs : List Ru} {ts : List Tx} (h : TxO K F a rs ts) : (whole ts).length ≤ 1000000000000 := h.tab.le _
section
variable (K : PySem.W.Frag)
def sp_BadRules_init : Sp := sp_exi2 K (He.ga K "BadRules") "number" "reason"
def sp_NoPlace_init : Sp := sp_exi1 K (He.ga K "NoPlace") "place"
def sp_NoPart_init : Sp := sp_exi2 K (He.ga K "NoPart") "start" "stop"
def sp_inner_place : Sp := fun vs H Q _ => ∃ (F : Hp) (M : Ow) (a q : Addr) (r : Ru) (ts : List Tx) (n p : Nat), Hs F M H ∧ vs = [.ref a, .ref q, .int (p : Int)] ∧ SqT K F a (ruV r) ∧ SqT K F q (lens ts) ∧ RuK n ts r ∧ n ≤ ts.length ∧ (∀ i, (gt ts i).length ≤ 1000000000000) ∧
  (∀ w, r ≠ .wri w) ∧ p < (ruT ts r).length ∧ ∀ t F' H', Same F F' → Hs F' M H' → FzT K F' t [.int ((inP ts r p).1 : Int), .int ((inP ts r p).2 : Int)] → Q (.ref t) H'
def sp_Text_init : Sp := fun vs H Q _ => ∃ (F : Hp) (M : Ow) (x a dx : Addr) (m : HO → Ow) (vr : List V) (rs : List Ru) (ts : List Tx), Hs F M H ∧ vs = [.ref x, .ref a] ∧ Cell M x m ∧ Im M x (Ob (He.ga K "Text") dx ns_Text []) ∧ SqL K F a vr ∧ Pas K F vr rs ∧ Tab rs ts ∧ 1 ≤ rs.length ∧ rs.length ≤ 60 ∧
  ∀ F' H' p q vr', Same F F' → Hs F' (m (Ob (He.ga K "Text") dx ns_Text [.ref p, .ref q, .int ((whole ts).length : Int)])) H' → SqT K F' p vr' → DpAll K F' vr' (rs.map ruD) → SqT K F' q (lens ts) → Q .non H'
def sp_Text_letter : Sp := fun vs H Q E => ∃ (F : Hp) (M : Ow) (a : Addr) (rs : List Ru) (ts : List Tx) (p : Int), Hs F M H ∧ vs = [.ref a, .int p] ∧ TxO K F a rs ts ∧
  (∀ (n c : Nat) F' H', p = (n : Int) → (whole ts)[n]? = some c → Same F F' → Hs F' M H' → Q (.str (S [c])) H') ∧
  ((p < 0 ∨ ((whole ts).length : Int) ≤ p) → ∀ d F' H', Same F F' → Hs F' M H' → Fz F' d (.xd [("place", .int p)]) → E (.ref (He.ga K "NoPlace")) (some d) H')
def sp_Text_check_part : Sp := fun vs H Q E => ∃ (F : Hp) (M : Ow) (a : Addr) (rs : List Ru) (ts : List Tx) (p q : Int), Hs F M H ∧ vs = [.ref a, .int p, .int q] ∧ TxO K F a rs ts ∧
  (0 ≤ p → p ≤ q → q ≤ ((whole ts).length : Int) → Q .non H) ∧
  (¬ (0 ≤ p ∧ p ≤ q ∧ q ≤ ((whole ts).length : Int)) → ∀ d F' H', Same F F' → Hs F' M H' → Fz F' d (.xd [("stop", .int q), ("start", .int p)]) → E (.ref (He.ga K "NoPart")) (some d) H')
end
section
variable {K : PySem.W.Frag}
theorem pure_BadRules_init (vs : List V) (H : Hp) (Q : VK) (E : XK) (h : sp_BadRules_init K vs H Q E) : t_BadRules_init K { nx := fun _ H' => Q .non H', rt := Q } (start N_BadRules_init vs) H := pure_exi2 vs H Q E h
theorem pure_NoPlace_init (vs : List V) (H : Hp) (Q : VK) (E : XK) (h : sp_NoPlace_init K vs H Q E) : t_NoPlace_init K { nx := fun _ H' => Q .non H', rt := Q } (start N_NoPlace_init vs) H := pure_exi1 vs H Q E h
theorem pure_NoPart_init (vs : List V) (H : Hp) (Q : VK) (E : XK) (h : sp_NoPart_init K vs H Q E) : t_NoPart_init K { nx := fun _ H' => Q .non H', rt := Q } (start N_NoPart_init vs) H := pure_exi2 vs H Q E h
theorem lens_atT {ts : List Tx} {i n : Nat} (h : i < n) (hn : n ≤ ts.length) : atI (lens ts) (i : Int) = some (.int ((gt ts i).length : Int)) := lens_at (by omega)
theorem pure_inner_place (vs : List V) (H : Hp) (Q : VK) (E : XK) (h : sp_inner_place K vs H Q E) : t_inner_place K { nx := fun _ H' => Q .non H', rt := Q } (start N_inner_place vs) H := by
  obtain ⟨F, M, a, q, r, ts, n, p, hs, rfl, hr, hq, hk, hn, hl, hw, hp, k⟩ := h
  have hx := inP_ok hk hw hp
  have : FzT K F q (lens ts) := ⟨hq⟩
  unfold t_inner_place
  rw [st_inner_place]
  cases r with
  | wri w => exact absurd rfl (hw w)
  | join i j =>
    have : FzT K F a [.str "join", .int (i : Int), .int (j : Int)] := ⟨hr⟩
    obtain ⟨h1, h2⟩ := hk
    walk_at "py"
    refine nIxT (lens_atT h1 hn) ?_
    walk_at "py"
    refine ifP (fun hlt => ?_) (fun hlt => ?_)
    · walk_at "py"
      rename_i t F' H' ht hF hs' hT hz
      have e : inP ts (.join i j) p = (i, p) := by simp only [inP]; rw [if_pos (by omega)]
      rw [e] at k
      exact k t F' H' hF.h hs' (hT K)
    · walk_at "py"
      rename_i t F' H' ht hF hs' hT hz
      have e : inP ts (.join i j) p = (j, p - (gt ts i).length) := by simp only [inP]; rw [if_neg (by omega)]
      rw [e] at k
      have e2 : (p : Int) - ((gt ts i).length : Int) = ((p - (gt ts i).length : Nat) : Int) := by omega
      rw [e2] at hT
      exact k t F' H' hF.h hs' (hT K)
  | power i t =>
    have : FzT K F a [.str "power", .int (i : Int), .int (t : Int)] := ⟨hr⟩
    obtain ⟨h1, h2⟩ := hk
    have hli := hl i
    have hp1 : p < t * (gt ts i).length := by rw [← rep_len]; exact hp
    have hpos : 0 < (gt ts i).length := by
      rcases Nat.eq_zero_or_pos (gt ts i).length with z | z
      · rw [z, Nat.mul_zero] at hp1; omega
      · exact z
    walk_at "py"
    refine nIxT (lens_atT h1 hn) ?_
    walk_at "py"
    rename_i b F' H' ht hF hs' hT hz
    have e2 : (p : Int) - ((gt ts i).length : Int) * ((p : Int) / ((gt ts i).length : Int)) = ((p % (gt ts i).length : Nat) : Int) := by
      rw [Int.natCast_emod]
      have := Int.emod_add_mul_ediv (p : Int) ((gt ts i).length : Int)
      omega
    rw [e2] at hT
    exact k b F' H' hF.h hs' (hT K)
  | part i b c =>
    have : FzT K F a [.str "part", .int (i : Int), .int (b : Int), .int (c : Int)] := ⟨hr⟩
    walk_at "py"
    rename_i t F' H' ht hF hs' hT hz
    have e2 : (p : Int) + (b : Int) = ((p + b : Nat) : Int) := by omega
    rw [e2] at hT
    exact k t F' H' hF.h hs' (hT K)
  | back i =>
    have : FzT K F a [.str "back", .int (i : Int)] := ⟨hr⟩
    have h1 : i < n := hk
    have hp1 : p < (gt ts i).length := by rw [← List.length_reverse]; exact hp
    walk_at "py"
    refine nIxT (lens_atT h1 hn) ?_
    walk_at "py"
    rename_i t F' H' ht hF hs' hT hz
    have e2 : ((gt ts i).length : Int) - 1 - (p : Int) = (((gt ts i).length - 1 - p : Nat) : Int) := by omega
    rw [e2] at hT
    exact k t F' H' hF.h hs' (hT K)
theorem pure_Text_init [ClsF K (He.ga K "Text") ns_Text] (vs : List V) (H : Hp) (Q : VK) (E : XK) (h : sp_Text_init K vs H Q E) : t_Text_init K (sp_check_rules K) (sp_lengths_of K) { nx := fun _ H' => Q .non H', rt := Q } (start N_Text_init vs) H := by
  obtain ⟨F, M, x, a, dx, m, vr, rs, ts, hs, rfl, cc, hm, hv, hd, hT, hl1, hl2, k⟩ := h
  have hw := cell_sw cc
  have hw2 := cell_sw2 cc
  have hi2 := cell_im cc
  have htl := hT.ln
  unfold t_Text_init
  rw [st_Text_init]
  walk_at "py"
  refine ⟨F, M, a, vr, rs, ts, hs, rfl, hv, hd, hT, hl1, hl2, fun F1 H1 e1 hs1 => ?_⟩
  have hF1 : Sm F F1 := ⟨e1⟩
  walk_at "py"
  have : FzS K F1 a vr := ⟨.inl (same_l e1 hv)⟩
  have hd1 := hd.mono e1
  refine nCompLT (fun i acc F' M' => M' = M ∧ DpAll K F' acc ((rs.take i).map ruD)) ⟨rfl, .nil⟩ ?_ ?_
  · rintro i y acc D F' M' H' hi hF hs' ⟨rfl, hacc⟩
    have hil := (List.getElem?_eq_some_iff.mp hi).1
    obtain ⟨r, hr⟩ : ∃ r, rs[i]? = some r := ⟨_, List.getElem?_eq_getElem (l := rs) (i := i) (by rw [← hd.1]; exact hil)⟩
    obtain ⟨b, rfl, hb⟩ := hd1.2 i y _ hi hr
    have hal := dpa_len hacc
    rw [List.length_map, List.length_take] at hal
    walk_at "py"
    have : FzS K F' b (ruV r) := ⟨hb.imp (same_l hF.h) (same_t hF.h)⟩
    refine nTupleOfS fun t F2 H2 hF2 hs2 hT2 => ?_
    refine .mk (hF.h.trans hF2.h) hs2 (by omega) ⟨rfl, ?_⟩
    rw [take_one hr, List.map_append]
    exact dpa_app (dpa_mono hF2.h hacc) (.cons (dp_ruI hT2.h) .nil)
  · rintro D acc F' M' H' hD hF hs' ⟨rfl, hacc⟩
    rw [hd.1, List.take_of_length_le (Nat.le_refl _)] at hacc
    walk_at "py"
    refine nTupleOfO fun t F2 H2 ht hF2 hs2 hT2 hz2 => ?_
    have hs3 := hs2.drop 0
    simp only [List.eraseIdx_cons_zero] at hs3
    walk_at "py"
    refine nSet_new (ns := ns_Text) rfl fun H3 hs4 => ?_
    simp only [List.nil_append, List.cons_append] at hs4
    walk_at "py"
    refine ⟨F2, _, t, acc, rs, ts, hs4, rfl, hT2.h, dpa_mono hF2.h hacc, hT, by omega, fun q F4 H4 e4 hs5 hTq => ?_⟩
    have hF4 : Sm F2 F4 := ⟨e4⟩
    walk_at "py"
    refine nSet_new (ns := ns_Text) rfl fun H5 hs6 => ?_
    simp only [List.nil_append, List.cons_append] at hs6
    have hne : lens ts = lens (ts.take (ts.length - 1)) ++ [.int ((whole ts).length : Int)] := by
      rw [← lens_snoc]
      congr 1
      have : ts.length - 1 < ts.length := by omega
      have e := take_one (at_gt this)
      rw [show ts.length - 1 + 1 = ts.length by omega, List.take_of_length_le (Nat.le_refl _)] at e
      exact e
    have : FzT K F4 q (lens (ts.take (ts.length - 1)) ++ [.int ((whole ts).length : Int)]) := ⟨hne ▸ hTq.h⟩
    walk_at "py"
    refine nSet_new (ns := ns_Text) rfl fun H7 hs7 => ?_
    simp only [List.nil_append, List.cons_append] at hs7
    exact k F4 H7 t q acc (e1.trans (hF.h.trans (hF2.h.trans e4))) hs7 (same_t e4 hT2.h) (dpa_mono (hF2.h.trans e4) hacc) hTq.h
theorem pure_Text_check_part [ClsF K (He.ga K "Text") ns_Text] (xk : Exk K "NoPart" ["start", "stop"]) (vs : List V) (H : Hp) (Q : VK) (E : XK) (h : sp_Text_check_part K vs H Q E) : t_Text_check_part K (sp_NoPart_init K) E { nx := fun _ H' => Q .non H', rt := Q } (start N_Text_check_part vs) H := by
  obtain ⟨F, M, a, rs, ts, p, q, hs, rfl, hO, k1, k2⟩ := h
  obtain ⟨dx, tp, tq, vr, ho, h2, h3, h4⟩ := hO.ob
  have : Fz F a (Ob (He.ga K "Text") dx ns_Text [.ref tp, .ref tq, .int ((whole ts).length : Int)]) := ⟨ho⟩
  unfold t_Text_check_part
  rw [st_Text_check_part]
  have bad : (¬ (0 ≤ p ∧ p ≤ q ∧ q ≤ ((whole ts).length : Int))) → nRai (He.ga K "NoPart") (sp_NoPart_init K) E [.int p, .int q] H := fun hb =>
    nRai2 xk (by simp) (by simp) fun d F' H' hd hF hs' hz => k2 hb d F' H' hF.h hs' hz
  walk_at "py"
  refine ifP (fun c1 => ?_) (fun c1 => ?_)
  · walk_at "py"
    refine ifP (fun c2 => ?_) (fun c2 => ?_)
    · walk_at "py"
      refine ifN (fun c3 => ?_) (fun c3 => ?_)
      · walk_at "py"
        exact bad (by omega)
      · walk_at "py"
        exact k1 c1 c2 c3
    · walk_at "py"
      exact bad (by omega)
  · walk_at "py"
    exact bad (by omega)
theorem pure_Text_letter [ClsF K (He.ga K "Text") ns_Text] (xk : Exk K "NoPlace" ["place"]) (vs : List V) (H : Hp) (Q : VK) (E : XK) (h : sp_Text_letter K vs H Q E) : t_Text_letter K (sp_NoPlace_init K) (sp_inner_place K) E { nx := fun _ H' => Q .non H', rt := Q } (start N_Text_letter vs) H := by
  obtain ⟨F, M, a, rs, ts, p, hs, rfl, hO, k1, k2⟩ := h
  obtain ⟨dx, tp, tq, vr, ho, h2, h3, h4⟩ := hO.ob
  have hob : Fz F a (Ob (He.ga K "Text") dx ns_Text [.ref tp, .ref tq, .int ((whole ts).length : Int)]) := ⟨ho⟩
  have hr : FzT K F tp vr := ⟨h2⟩
  have hq : FzT K F tq (lens ts) := ⟨h4⟩
  have hne := hO.ne
  have htl := hO.tab.ln
  have hvl := dpa_len h3
  rw [List.length_map] at hvl
  unfold t_Text_letter
  rw [st_Text_letter]
  have bad : (p < 0 ∨ ((whole ts).length : Int) ≤ p) → nRai (He.ga K "NoPlace") (sp_NoPlace_init K) E [.int p] H := fun hb =>
    nRai1 xk (by simp) fun d F' H' hd hF hs' hz => k2 hb d F' H' hF.h hs' hz
  walk_at "py"
  refine ifP (fun c1 => ?_) (fun c1 => ?_)
  · walk_at "py"
    refine ifN (fun c2 => ?_) (fun c2 => ?_)
    · walk_at "py"
      exact bad (by omega)
    · walk_at "py"
      obtain ⟨n, rfl⟩ : ∃ n : Nat, p = (n : Int) := ⟨p.toNat, by omega⟩
      have hn : n < (whole ts).length := by omega
      obtain ⟨c, hc⟩ : ∃ c, (whole ts)[n]? = some c := ⟨_, List.getElem?_eq_getElem hn⟩
      have hlast : rs[rs.length - 1]? = some (rs[rs.length - 1]'(by omega)) := List.getElem?_eq_getElem _
      obtain ⟨b, hb, hbS⟩ := dp_rus h3 hlast
      have ha : atI vr (-1) = some (.ref b) := by
        have e : vr = vr.take (vr.length - 1) ++ [.ref b] := by
          have e := take_one (l := vr) (i := vr.length - 1) (x := .ref b) (by rw [hvl]; exact hb)
          rw [show vr.length - 1 + 1 = vr.length by omega, List.take_of_length_le (Nat.le_refl _)] at e
          exact e
        rw [e]; exact atI_last _ _
      refine nIxT ha ?_
      walk_at "py"
      refine whileI (fun mm σ' F' M' => M' = M ∧ ∃ (b : Addr) (r : Ru) (pl : Nat) (w : Option V), mm < rs.length ∧ rs[mm]? = some r ∧ SqT K F b (ruV r) ∧ σ' = [some (.ref a), some (.int (pl : Int)), some (.ref b), w] ∧ (gt ts mm)[pl]? = some c) (rs.length - 1)
        ⟨rfl, b, _, n, none, by omega, hlast, hbS, rfl, by have : whole ts = gt ts (rs.length - 1) := by unfold whole; rw [htl]
                                                           rw [← this]; exact hc⟩ ?_
      rintro mm σ' F' M' H' hF hs' ⟨rfl, b, r, pl, w, hmm, hrr, hbS, rfl, hpl⟩
      have hpl2 := (List.getElem?_eq_some_iff.mp hpl).1
      obtain ⟨hk1, hk2, hk3⟩ := hO.tab.ok mm r hrr
      have hgt : gt ts mm = ruT ts r := gt_at hk2
      by_cases hwri : ∃ w, r = .wri w
      · obtain ⟨wt, rfl⟩ := hwri
        have : FzT K F b [.str "letters", .str (S wt)] := ⟨hbS⟩
        walk_at "py"
        refine whN ?_
        walk_at "py"
        have hwt : gt ts mm = wt := hgt
        rw [hwt] at hpl
        have hk : wt.length ≤ 64 := hk1.1
        exact nIxTx (by omega) hpl (k1 n c F' H' rfl hc hF.h hs')
      · have hnw : ∀ w, r ≠ .wri w := fun w e => hwri ⟨w, e⟩
        have hin := inP_ok hk1 hnw (p := pl) (by rw [← hgt]; exact hpl2)
        have go : ∀ (σ2 : L2.St) , True := fun _ => trivial
        have body : ∀ (Nx : L2.St → Hp → Prop), True := fun _ => trivial
        have fin : ∀ t F2 H2, Same F' F2 → Hs F2 M' H2 → FzT K F2 t [.int ((inP ts r pl).1 : Int), .int ((inP ts r pl).2 : Int)] → True := fun _ _ _ _ _ _ => trivial
        have hwd : ∃ z : Str, (ruV r)[0]? = some (.str z) ∧ decide (z = ("letters" : Str)) = false := by
          cases r with
          | wri w => exact absurd rfl (hnw w)
          | join i j => exact ⟨_, rfl, Wd.h (r := false)⟩
          | power i j => exact ⟨_, rfl, Wd.h (r := false)⟩
          | part i j k => exact ⟨_, rfl, Wd.h (r := false)⟩
          | back i => exact ⟨_, rfl, Wd.h (r := false)⟩
        obtain ⟨z, hz0, hz⟩ := hwd
        have hbT : FzT K F b (ruV r) := ⟨hbS⟩
        have : At (ruV r) 0 (.str z) := atN (n := 0) hz0
        have : Wd z "letters" false := ⟨hz⟩
        walk_at "py"
        refine whY ?_
        walk_at "py"
        refine ⟨F', _, b, tq, r, ts, mm, pl, hs', rfl, same_t hF.h hbS, same_t hF.h h4, hk1, by omega, hO.tab.le, hnw, by rw [← hgt]; exact hpl2, fun t F2 H2 e2 hs2 hTt => ?_⟩
        have hF2 : Sm F' F2 := ⟨e2⟩
        walk_at "py"
        obtain ⟨b', hb', hbS'⟩ := dp_rus h3 (List.getElem?_eq_getElem (l := rs) (i := (inP ts r pl).1) (by omega))
        refine nIxT (atI_nat hb') ?_
        walk_at "py"
        exact WvH.mk (m' := (inP ts r pl).1) hin.1 (hF.h.trans e2) hs2 ⟨rfl, b', _, _, _, by omega, List.getElem?_eq_getElem (by omega), hbS', rfl, by rw [← hin.2.2, ← hgt]; exact hpl⟩
  · walk_at "py"
    exact bad (by omega)
end
end Sh


set_option Elab.async false
set_option linter.all false
set_option maxRecDepth 100000
set_option maxHeartbeats 4000000
namespace Sh
open PySem PySem.Spec PyProof.Rows L2
/-! the steps, by themselves as far as nothing is to be decided -/
set_option synthInstance.maxSize 4096
set_option synthInstance.maxHeartbeats 400000
local macro_rules | `(tactic| walk_at "sm") => `(tactic| first | assumption | exact Same.refl _ | exact Sm.h | (refine Same.trans ?_ Sm.h; walk_at "sm"))
local macro_rules | `(tactic| walk_at "py1") => `(tactic| first
  | refine go ?_
  | (with_reducible refine py_mulL (by omega) (by omega) ?_) | (with_reducible refine py_mulR (by omega) (by omega) ?_) | (with_reducible refine py_divI (by omega) (by omega) ?_) | (with_reducible refine py_modI (by omega) ?_)
  | (with_reducible refine nSet_mk ?_; intro _ _) | (with_reducible refine nTupF (by simp) ?_; intro _ _ _ _ _ _ _ _) | (with_reducible refine nLstO (by simp) ?_; intro _ _ _ _)
  | (with_reducible refine nRng1_mk (by omega) (by omega) ?_) | (with_reducible refine nRng2_mk (by omega) (by omega) (by omega) (by omega) ?_))
local macro_rules | `(tactic| walk_at "py") => `(tactic| repeat (walk_at "py1"))
def N_inner_parts : List Str := ["rule", "lengths", "start", "stop", "word", "inner", "many", "found", "number", "first"]
theorem st_inner_parts {v0 v1 v2 v3 : V} : start N_inner_parts [v0, v1, v2, v3] = [some v0, some v1, some v2, some v3, none, none, none, none, none, none] := rfl
def t_inner_parts (K : PySem.W.Frag) : TS := (tSeq (tAsg (tOp (rIx K) (tVar 0) (tC (.int 0))) (gName 4)) (tSeq (tAsg (tOp (rIx K) (tVar 0) (tC (.int 1))) (gName 5)) (tSeq (tAsg (tOp (rIx K) (tVar 1) (tVar 5)) (gName 6)) (tSeq (tIfS (tTest (tOp rEq (tVar 4) (tC (.str "part")))) (tRet (tLst (tCons (tTup (tCons (tVar 5) (tCons (tOp rAddI (tVar 2) (tOp (rIx K) (tVar 0) (tC (.int 2)))) (tCons (tOp rAddI (tVar 3) (tOp (rIx K) (tVar 0) (tC (.int 2)))) (tCons (tC (.bl false)) tNil))))) tNil))) tNext) (tSeq (tIfS (tTest (tOp rEq (tVar 4) (tC (.str "back")))) (tRet (tLst (tCons (tTup (tCons (tVar 5) (tCons (tOp rSubI (tVar 6) (tVar 3)) (tCons (tOp rSubI (tVar 6) (tVar 2)) (tCons (tC (.bl true)) tNil))))) tNil))) tNext) (tSeq (tIfS (tTest (tOp rEq (tVar 4) (tC (.str "power")))) (tSeq (tAsg (tLst tNil) (gName 7)) (tSeq (tFor (iRng2 (tCons (tOp rDivI (tVar 2) (tVar 6)) (tCons (tOp rAddI (tOp rDivI (tOp rSubI (tVar 3) (tC (.int 1))) (tVar 6)) (tC (.int 1))) tNil))) (gName 8) (tSeq (tAsg (tOp rMulI (tVar 8) (tVar 6)) (gName 9)) (tDrop (tBM K "list" rAppend (tVar 7) (tCons (tTup (tCons (tVar 5) (tCons (tCB rMax2 (tCons (tOp rSubI (tVar 2) (tVar 9)) (tCons (tC (.int 0)) tNil))) (tCons (tCB rMin2 (tCons (tOp rSubI (tVar 3) (tVar 9)) (tCons (tVar 6) tNil))) (tCons (tC (.bl false)) tNil))))) tNil))))) (tRet (tVar 7)))) tNext) (tSeq (tAsg (tLst tNil) (gName 7)) (tSeq (tIfS (tTest (tOp rLtI (tVar 2) (tVar 6))) (tDrop (tBM K "list" rAppend (tVar 7) (tCons (tTup (tCons (tVar 5) (tCons (tVar 2) (tCons (tCB rMin2 (tCons (tVar 3) (tCons (tVar 6) tNil))) (tCons (tC (.bl false)) tNil))))) tNil))) tNext) (tSeq (tIfS (tTest (tOp rGtI (tVar 3) (tVar 6))) (tDrop (tBM K "list" rAppend (tVar 7) (tCons (tTup (tCons (tOp (rIx K) (tVar 0) (tC (.int 2))) (tCons (tCB rMax2 (tCons (tOp rSubI (tVar 2) (tVar 6)) (tCons (tC (.int 0)) tNil))) (tCons (tOp rSubI (tVar 3) (tVar 6)) (tCons (tC (.bl false)) tNil))))) tNil))) tNext) (tRet (tVar 7)))))))))))
def N_Text_letters : List Str := ["self", "start", "stop", "found", "waiting", "number", "first", "last", "is_turned", "rule", "letters", "parts", "inner", "low", "high", "turns"]
theorem st_Text_letters {v0 v1 v2 : V} : start N_Text_letters [v0, v1, v2] = [some v0, some v1, some v2, none, none, none, none, none, none, none, none, none, none, none, none, none] := rfl
def t_Text_letters (K : PySem.W.Frag) (sp_Text_check_part : Sp) (sp_inner_parts : Sp) (E : XK) : TS := (tSeq (tDrop (tMethE (He.ga K "Text") "check_part" sp_Text_check_part (fun _ => E) (tVar 0) (tCons (tVar 1) (tCons (tVar 2) tNil)))) (tSeq (tIfS (tTest (tOp rGtI (tOp rSubI (tVar 2) (tVar 1)) (tC (.int 1000)))) (tRaiseC (He.ga K "TooLong") E) tNext) (tSeq (tAsg (tLst tNil) (gName 3)) (tSeq (tAsg (tLst (tCons (tTup (tCons (tOp rSubI (tCB (rLn K) (tCons (tFld K (tVar 0) "rules") tNil)) (tC (.int 1))) (tCons (tVar 1) (tCons (tVar 2) (tCons (tC (.bl false)) tNil))))) tNil)) (gName 4)) (tSeq (tWhile (tTru K (tVar 4)) (tSeq (tAsg (tBM0 K "list" rPop (tVar 4)) (gTup K 4 (gCons (gName 5) (gCons (gName 6) (gCons (gName 7) (gCons (gName 8) gNil)))))) (tSeq (tAsg (tOp (rIx K) (tFld K (tVar 0) "rules") (tVar 5)) (gName 9)) (tIfS (tAnd (tTest (tOp rLtI (tVar 6) (tVar 7))) (tTest (tOp rEq (tOp (rIx K) (tVar 9) (tC (.int 0))) (tC (.str "letters"))))) (tSeq (tAsg (tSl rSlS (tOp (rIx K) (tVar 9) (tC (.int 1))) (tPart (tVar 6)) (tPart (tVar 7))) (gName 10)) (tDrop (tBM K "list" rAppend (tVar 3) (tCons (tIf (tTru K (tVar 8)) (tRevS K (tVar 10)) (tVar 10)) tNil)))) (tIfS (tTest (tOp rLtI (tVar 6) (tVar 7))) (tSeq (tAsg (tCall sp_inner_parts [] E0 (tCons (tVar 9) (tCons (tFld K (tVar 0) "lengths") (tCons (tVar 6) (tCons (tVar 7) tNil))))) (gName 11)) (tSeq (tIfS (tNot (tTru K (tVar 8))) (tDrop (tBM0 K "list" rReverse (tVar 11))) tNext) (tFor (iList K (tVar 11)) (gTup K 4 (gCons (gName 12) (gCons (gName 13) (gCons (gName 14) (gCons (gName 15) gNil))))) (tDrop (tBM K "list" rAppend (tVar 4) (tCons (tTup (tCons (tVar 12) (tCons (tVar 13) (tCons (tVar 14) (tCons (tOp rNe (tVar 15) (tVar 8)) tNil))))) tNil)))))) tNext))))) (tRet (tJoin K (tC (.str "")) (tVar 3))))))))
open SX (S)
section
variable (K : PySem.W.Frag)
def sp_inner_parts : Sp := fun vs H Q _ => ∃ (F : Hp) (M : Ow) (a q : Addr) (r : Ru) (ts : List Tx) (n x y : Nat), Hs F M H ∧ vs = [.ref a, .ref q, .int (x : Int), .int (y : Int)] ∧ SqT K F a (ruV r) ∧ SqT K F q (lens ts) ∧ RuK n ts r ∧ n ≤ ts.length ∧ (∀ i, (gt ts i).length ≤ 1000000000000) ∧
  (∀ w, r ≠ .wri w) ∧ x < y ∧ y ≤ (ruT ts r).length ∧ y - x ≤ 1000 ∧
  ∀ p pv (ps : List Pt) F' H', F p = none → Same F F' → Hs F' ((p, HO.lst pv) :: M) H' → DpAll K F' pv (ps.map ptD) → (∀ z ∈ ps, PtK n ts z) → ptsT ts ps = cut (ruT ts r) x y → Q (.ref p) H'
def sp_Text_letters : Sp := fun vs H Q E => ∃ (F : Hp) (M : Ow) (a : Addr) (rs : List Ru) (ts : List Tx) (p q : Int), Hs F M H ∧ vs = [.ref a, .int p, .int q] ∧ TxO K F a rs ts ∧
  (∀ (x y : Nat) F' H', p = (x : Int) → q = (y : Int) → x ≤ y → y ≤ (whole ts).length → y - x ≤ 1000 → Same F F' → Hs F' M H' → Q (.str (S (cut (whole ts) x y))) H') ∧
  (0 ≤ p → p ≤ q → q ≤ ((whole ts).length : Int) → 1000 < q - p → E (.ref (He.ga K "TooLong")) none H) ∧
  (¬ (0 ≤ p ∧ p ≤ q ∧ q ≤ ((whole ts).length : Int)) → ∀ d F' H', Same F F' → Hs F' M H' → Fz F' d (.xd [("stop", .int q), ("start", .int p)]) → E (.ref (He.ga K "NoPart")) (some d) H')
end
section
variable {K : PySem.W.Frag}
theorem pts_le {n : Nat} {ts : List Tx} {ps : List Pt} {t : Tx} (h : ∀ z ∈ ps, PtK n ts z) (e : ptsT ts ps = t) : ps.length ≤ t.length ∧ ptL ps = t.length := by
  have h1 := ptL_len h
  rw [e] at h1
  have h2 := (ptM_le h).2
  omega
theorem pure_inner_parts (vs : List V) (H : Hp) (Q : VK) (E : XK) (h : sp_inner_parts K vs H Q E) : t_inner_parts K { nx := fun _ H' => Q .non H', rt := Q } (start N_inner_parts vs) H := by
  obtain ⟨F, M, a, q, r, ts, n, x, y, hs, rfl, hr, hq, hk, hn, hl, hw, hxy, hy, hxl, k⟩ := h
  have : FzT K F q (lens ts) := ⟨hq⟩
  unfold t_inner_parts
  rw [st_inner_parts]
  cases r with
  | wri w => exact absurd rfl (hw w)
  | join i j =>
    have : FzT K F a [.str "join", .int (i : Int), .int (j : Int)] := ⟨hr⟩
    obtain ⟨h1, h2⟩ := hk
    have hy' : y ≤ (gt ts i).length + (gt ts j).length := by rw [← List.length_append]; exact hy
    have hc : cut (ruT ts (.join i j)) x y = cut (gt ts i) x (min y (gt ts i).length) ++ cut (gt ts j) (x - (gt ts i).length) (y - (gt ts i).length) := cut_append (by omega)
    rw [hc] at k
    walk_at "py"
    refine nIxT (lens_atT h1 hn) ?_
    walk_at "py"
    rename_i p H1 hp hs1
    refine ifP (fun c1 => ?_) (fun c1 => ?_)
    · walk_at "py"
      refine py_min2 (m := ((min y (gt ts i).length : Nat) : Int)) (by split <;> omega) ?_
      walk_at "py"
      rename_i t1 F2 H2 ht1 hF2 hs2 hT1 hz1
      refine nAppend (xs := []) (by simp) fun H3 hs3 => ?_
      simp only [List.nil_append] at hs3
      walk_at "py"
      refine ifP (fun c2 => ?_) (fun c2 => ?_)
      · walk_at "py"
        refine py_max2 (m := ((x - (gt ts i).length : Nat) : Int)) (by split <;> omega) ?_
        walk_at "py"
        rename_i t2 F4 H4 ht2 hF4 hs4 hT2 hz2
        refine nAppend (xs := [.ref t1]) (by simp) fun H5 hs5 => ?_
        simp only [List.cons_append, List.nil_append] at hs5
        walk_at "py"
        have e2 : (y : Int) - ((gt ts i).length : Int) = ((y - (gt ts i).length : Nat) : Int) := by omega
        rw [e2] at hT2
        refine k p _ [(i, x, min y (gt ts i).length, false), (j, x - (gt ts i).length, y - (gt ts i).length, false)] F4 H5 hp (hF2.h.trans hF4.h) hs5 (.cons (dp_ptI (same_t hF4.h (hT1 K).h)) (.cons (dp_ptI (hT2 K).h) .nil)) ?_ (by simp [ptsT, ptT])
        intro z hz
        simp only [List.mem_cons, List.not_mem_nil, or_false] at hz
        rcases hz with rfl | rfl
        · exact ⟨h1, by show x < min y (gt ts i).length; omega, Nat.min_le_right _ _⟩
        · exact ⟨h2, by show x - (gt ts i).length < y - (gt ts i).length; omega, by show y - (gt ts i).length ≤ (gt ts j).length; omega⟩
      · walk_at "py"
        refine k p _ [(i, x, min y (gt ts i).length, false)] F2 H3 hp hF2.h hs3 (.cons (dp_ptI (hT1 K).h) .nil) ?_ (by rw [cut_nil (x := gt ts j) (by omega)]; simp [ptsT, ptT])
        intro z hz
        simp only [List.mem_cons, List.not_mem_nil, or_false] at hz
        subst hz
        exact ⟨h1, by show x < min y (gt ts i).length; omega, Nat.min_le_right _ _⟩
    · walk_at "py"
      refine ifPT (by omega) ?_
      walk_at "py"
      refine py_max2 (m := ((x - (gt ts i).length : Nat) : Int)) (by split <;> omega) ?_
      walk_at "py"
      rename_i t2 F4 H4 ht2 hF4 hs4 hT2 hz2
      refine nAppend (xs := []) (by simp) fun H5 hs5 => ?_
      simp only [List.nil_append] at hs5
      walk_at "py"
      have e2 : (y : Int) - ((gt ts i).length : Int) = ((y - (gt ts i).length : Nat) : Int) := by omega
      rw [e2] at hT2
      refine k p _ [(j, x - (gt ts i).length, y - (gt ts i).length, false)] F4 H5 hp hF4.h hs5 (.cons (dp_ptI (hT2 K).h) .nil) ?_ (by rw [cut_nil (x := gt ts i) (by omega)]; simp [ptsT, ptT])
      intro z hz
      simp only [List.mem_cons, List.not_mem_nil, or_false] at hz
      subst hz
      exact ⟨h2, by show x - (gt ts i).length < y - (gt ts i).length; omega, by show y - (gt ts i).length ≤ (gt ts j).length; omega⟩
  | power i t =>
    have : FzT K F a [.str "power", .int (i : Int), .int (t : Int)] := ⟨hr⟩
    obtain ⟨h1, h2⟩ := hk
    have hli := hl i
    have hy' : y ≤ t * (gt ts i).length := by rw [← rep_len]; exact hy
    have hpos : 0 < (gt ts i).length := by
      rcases Nat.eq_zero_or_pos (gt ts i).length with z | z
      · rw [z, Nat.mul_zero] at hy'; omega
      · exact z
    have hx1 : x ≤ 1000000000000000000000000 := by
      have : t * (gt ts i).length ≤ 1000000000000 * 1000000000000 := Nat.mul_le_mul h2 hli
      omega
    generalize hL : (gt ts i).length = L at *
    have hdx : x / L ≤ 1000000000000 := by
      have : x / L ≤ t * L / L := Nat.div_le_div_right (by omega)
      rw [Nat.mul_div_cancel _ hpos] at this
      omega
    have hdy : (y - 1) / L < t := Nat.div_lt_of_lt_mul (by rw [Nat.mul_comm]; omega)
    have hdd : x / L ≤ (y - 1) / L := Nat.div_le_div_right (by omega)
    have ex : (x : Int) / (L : Int) = ((x / L : Nat) : Int) := (Int.natCast_ediv x L).symm
    have ey : ((y : Int) - 1) / (L : Int) = (((y - 1) / L : Nat) : Int) := by rw [show (y : Int) - 1 = ((y - 1 : Nat) : Int) by omega]; exact (Int.natCast_ediv (y - 1) L).symm
    have hlx : x / L * L ≤ x := Nat.div_mul_le_self x L
    have hly : y ≤ ((y - 1) / L + 1) * L := by
      have := Nat.lt_div_mul_add (a := y - 1) hpos
      rw [Nat.add_mul, Nat.one_mul]; omega
    have hlx2 : x < x / L * L + L := Nat.lt_div_mul_add hpos
    have hly2 : (y - 1) / L * L ≤ y - 1 := Nat.div_mul_le_self _ _
    have hAl : x / L ≤ x / L := Nat.le_refl _
    have hstep : ∀ k, k < t → x / L ≤ k → k * L < y → cut (List.replicate t (gt ts i)).flatten x (min y (k * L)) ++ cut (gt ts i) (x - k * L) (min (y - k * L) L) = cut (List.replicate t (gt ts i)).flatten x (min y ((k + 1) * L)) := by
      intro k a1 a2 a3
      have := rep_step (x := gt ts i) (t := t) (k := k) (a := x) (b := y) a1 (by rw [hL]; exact a2) (by rw [hL]; exact a3) (by rw [hL]; exact hy') hxy (by rw [hL]; exact hpos)
      rw [hL] at this
      exact this
    clear hAl
    generalize x / L = A at *
    generalize (y - 1) / L = B at *
    walk_at "py"
    refine nIxT (lens_atT h1 hn) ?_
    rw [hL]
    walk_at "py"
    rename_i p H1 hp hs1
    rw [ex, ey]
    walk_at "py"
    rw [show ((B : Int) + 1 - (A : Int)).toNat = B + 1 - A by omega]
    refine nLoopR (fun m σ' F' M' => ∃ (pv : List V) (ps : List Pt) (w1 w2 : Option V), M' = (p, HO.lst pv) :: M ∧ σ' = [some (.ref a), some (.ref q), some (.int (x : Int)), some (.int (y : Int)), some (.str "power"), some (.int (i : Int)), some (.int (L : Int)), some (.ref p), w1, w2] ∧
        DpAll K F' pv (ps.map ptD) ∧ (∀ z ∈ ps, PtK n ts z) ∧ ptsT ts ps = cut (List.replicate t (gt ts i)).flatten x (min y ((A + m) * L)))
      ⟨[], [], none, none, rfl, rfl, .nil, by simp, by rw [Nat.add_zero, cut_nil (by omega)]; rfl⟩ ?_ ?_
    · rintro m σ' F' M' H' hm hF hs' ⟨pv, ps, w1, w2, rfl, rfl, hd, hk, he⟩
      have hkm : A + m < t := by omega
      have hkL : (A + m) * L ≤ B * L := Nat.mul_le_mul_right _ (by omega)
      have hAm : A * L ≤ (A + m) * L := Nat.mul_le_mul_right _ (by omega)
      have hkLe : (((A : Int) + (m : Int)) * (L : Int)) = (((A + m) * L : Nat) : Int) := by rw [Int.natCast_mul, Int.natCast_add]
      have hcl := pts_le hk he
      have hcl2 : (cut (List.replicate t (gt ts i)).flatten x (min y ((A + m) * L))).length ≤ y - x := by
        rw [cut_len' (by rw [rep_len, hL]; omega)]; omega
      have hpl := dpa_len hd
      rw [List.length_map] at hpl
      have hnew := hstep (A + m) hkm (by omega) (by omega)
      rw [show (A + (m + 1)) = A + m + 1 by omega]
      generalize (A + m + 1) * L = KL2 at *
      generalize (A + m) * L = KL at *
      walk_at "py"
      rw [hkLe]
      walk_at "py"
      refine py_max2 (m := ((x - KL : Nat) : Int)) (by split <;> omega) ?_
      walk_at "py"
      refine py_min2 (m := ((min (y - KL) L : Nat) : Int)) (by split <;> omega) ?_
      walk_at "py"
      rename_i t2 F4 H4 ht2 hF4 hs4 hT2 hz2
      refine nAppend (by omega) fun H5 hs5 => ?_
      refine .mk (hF.h.trans hF4.h) hs5 ⟨_, ps ++ [(i, x - KL, min (y - KL) L, false)], _, _, rfl, rfl, ?_, ?_, ?_⟩
      · rw [List.map_append]
        exact dpa_app (dpa_mono hF4.h hd) (.cons (dp_ptI (hT2 K).h) .nil)
      · intro z hz
        rcases List.mem_append.mp hz with hz | hz
        · exact hk z hz
        · rw [List.mem_singleton.mp hz]
          exact ⟨h1, by show x - KL < min (y - KL) L; omega, by show min (y - KL) L ≤ (gt ts i).length; rw [hL]; omega⟩
      · rw [ptsT_app, ptsT_one, he]
        exact hnew
    · rintro σ' F' M' H' hF hs' ⟨pv, ps, w1, w2, rfl, rfl, hd, hk, he⟩
      walk_at "py"
      refine k p pv ps F' H' hp hF.h hs' hd hk ?_
      rw [he]
      show _ = cut (List.replicate t (gt ts i)).flatten x y
      congr 1
      rw [show A + (B + 1 - A) = B + 1 by omega]
      omega
  | part i b c =>
    have : FzT K F a [.str "part", .int (i : Int), .int (b : Int), .int (c : Int)] := ⟨hr⟩
    obtain ⟨h1, h2, h3⟩ := hk
    have hy' : y ≤ c - b := by rw [← cut_len h3]; exact hy
    walk_at "py"
    refine nIxT (lens_atT h1 hn) ?_
    walk_at "py"
    rename_i t1 F2 H2 ht1 hF2 hs2 hT1 hz1 p H3 hp hs3
    have e1 : (x : Int) + (b : Int) = ((x + b : Nat) : Int) := by omega
    have e2 : (y : Int) + (b : Int) = ((y + b : Nat) : Int) := by omega
    rw [e1, e2] at hT1
    refine k p _ [(i, x + b, y + b, false)] F2 H3 (hF2.h.free hp) hF2.h hs3 (.cons (dp_ptI (hT1 K).h) .nil) ?_ ?_
    · intro z hz
      simp only [List.mem_cons, List.not_mem_nil, or_false] at hz
      subst hz
      exact ⟨h1, by show x + b < y + b; omega, by show y + b ≤ (gt ts i).length; omega⟩
    · show ptsT ts [(i, x + b, y + b, false)] = cut (cut (gt ts i) b c) x y
      rw [cut_cut (by omega), ptsT_one, Nat.add_comm b x, Nat.add_comm b y]
      rfl
  | back i =>
    have : FzT K F a [.str "back", .int (i : Int)] := ⟨hr⟩
    have h1 : i < n := hk
    have hy' : y ≤ (gt ts i).length := by rw [← List.length_reverse]; exact hy
    walk_at "py"
    refine nIxT (lens_atT h1 hn) ?_
    walk_at "py"
    rename_i t1 F2 H2 ht1 hF2 hs2 hT1 hz1 p H3 hp hs3
    have e1 : ((gt ts i).length : Int) - (x : Int) = (((gt ts i).length - x : Nat) : Int) := by omega
    have e2 : ((gt ts i).length : Int) - (y : Int) = (((gt ts i).length - y : Nat) : Int) := by omega
    rw [e1, e2] at hT1
    refine k p _ [(i, (gt ts i).length - y, (gt ts i).length - x, true)] F2 H3 (hF2.h.free hp) hF2.h hs3 (.cons (dp_ptI (hT1 K).h) .nil) ?_ ?_
    · intro z hz
      simp only [List.mem_cons, List.not_mem_nil, or_false] at hz
      subst hz
      exact ⟨h1, by show (gt ts i).length - y < (gt ts i).length - x; omega, Nat.sub_le _ _⟩
    · show ptsT ts [(i, (gt ts i).length - y, (gt ts i).length - x, true)] = cut (gt ts i).reverse x y
      rw [cut_rev hy', ptsT_one]
      rfl
end
/-- the flag of a part of a part -/
def adj (d : Bool) (p : Pt) : Pt := (p.1, p.2.1, p.2.2.1, !decide (p.2.2.2 = d))
theorem adj_true : adj true = flip := rfl
theorem adj_false {p : Pt} : adj false p = p := by
  obtain ⟨a, b, c, d⟩ := p
  cases d <;> rfl
theorem adj_K {n : Nat} {ts : List Tx} {d : Bool} {p : Pt} (h : PtK n ts p) : PtK n ts (adj d p) := h
theorem ptM_map {d : Bool} {ps : List Pt} : ptM (ps.map (adj d)) = ptM ps ∧ ptL (ps.map (adj d)) = ptL ps := by
  constructor
  · simp only [ptM, List.map_map]; rfl
  · simp only [ptL, List.map_map]; rfl
/-- what is pushed for a part's parts -/
def push (d : Bool) (ps : List Pt) : List Pt := (if d = true then ps else ps.reverse).map (adj d)
theorem push_M {d : Bool} {ps : List Pt} : ptM (push d ps) = ptM ps ∧ ptL (push d ps) = ptL ps ∧ (push d ps).length = ps.length := by
  unfold push
  rw [ptM_map.1, ptM_map.2]
  cases d with
  | true => simp
  | false =>
    rw [if_neg Bool.false_ne_true]
    exact ⟨ptM_rev.1, ptM_rev.2, by simp⟩
theorem push_T {ts : List Tx} {d : Bool} {ps : List Pt} : ptsT ts (push d ps).reverse = if d = true then (ptsT ts ps).reverse else ptsT ts ps := by
  unfold push
  cases d with
  | true =>
    rw [if_pos rfl, if_pos rfl, adj_true]
    exact ptsT_turn
  | false =>
    rw [if_neg Bool.false_ne_true, if_neg Bool.false_ne_true]
    rw [show (adj false) = id from funext fun p => adj_false, List.map_id, List.reverse_reverse]
theorem push_mem {n : Nat} {ts : List Tx} {d : Bool} {ps : List Pt} (h : ∀ z ∈ ps, PtK n ts z) : ∀ z ∈ push d ps, PtK n ts z := by
  intro z hz
  obtain ⟨w, hw, rfl⟩ := List.mem_map.mp hz
  refine adj_K (h w ?_)
  cases d with
  | true => exact hw
  | false => exact List.mem_reverse.mp hw
theorem snoc_one {ps : List Pt} {a b : Pt} (h : ps ++ [a] = [b]) : ps = [] ∧ a = b := by
  cases ps with
  | nil => exact ⟨rfl, by simpa using h⟩
  | cons c ps => simp at h
theorem flat_len : ∀ {fs : List Tx}, (∀ f ∈ fs, f ≠ []) → fs.length ≤ fs.flatten.length
  | [], _ => Nat.zero_le _
  | f :: fs, h => by
    have h1 := flat_len (fs := fs) fun g hg => h g (List.mem_cons_of_mem _ hg)
    have h2 : 1 ≤ f.length := by
      have := h f (List.mem_cons_self ..)
      cases f with
      | nil => exact absurd rfl this
      | cons a f => simp
    rw [List.flatten_cons, List.length_append, List.length_cons]; omega
section
variable {K : PySem.W.Frag}
def txV (t : Tx) : V := .str (S t)
theorem pure_Text_letters [ClsF K (He.ga K "Text") ns_Text] (vs : List V) (H : Hp) (Q : VK) (E : XK) (h : sp_Text_letters K vs H Q E) : t_Text_letters K (sp_Text_check_part K) (sp_inner_parts K) E { nx := fun _ H' => Q .non H', rt := Q } (start N_Text_letters vs) H := by
  obtain ⟨F, M, a, rs, ts, p, q, hs, rfl, hO, k1, k2, k3⟩ := h
  obtain ⟨dx, tp, tq, vr, ho, h2, h3, h4⟩ := hO.ob
  have hob : Fz F a (Ob (He.ga K "Text") dx ns_Text [.ref tp, .ref tq, .int ((whole ts).length : Int)]) := ⟨ho⟩
  have hr : FzT K F tp vr := ⟨h2⟩
  have hq : FzT K F tq (lens ts) := ⟨h4⟩
  have hne := hO.ne
  have htl := hO.tab.ln
  have hvl := dpa_len h3
  rw [List.length_map] at hvl
  unfold t_Text_letters
  rw [st_Text_letters]
  walk_at "py"
  refine ⟨F, M, a, rs, ts, p, q, hs, rfl, hO, fun c1 c2 c3 => ?_, k3⟩
  walk_at "py"
  refine ifP (fun c4 => ?_) (fun c4 => ?_)
  · walk_at "py"
    exact k2 c1 c2 c3 (by omega)
  obtain ⟨x, rfl⟩ : ∃ n : Nat, p = (n : Int) := ⟨p.toNat, by omega⟩
  obtain ⟨y, rfl⟩ : ∃ n : Nat, q = (n : Int) := ⟨q.toNat, by omega⟩
  have hxy : x ≤ y := by omega
  have hyl : y ≤ (whole ts).length := by omega
  have hx1 : y - x ≤ 1000 := by omega
  walk_at "py"
  rename_i fo H1 hfo hs1 t0 F2 H2 ht0 hF2 hs2 hT0 hz0 wa H3 hwa hs3
  rw [show (vr.length : Int) - 1 = ((ts.length - 1 : Nat) : Int) by omega] at hT0
  have htgt : (cut (whole ts) x y).length = y - x := cut_len' hyl
  refine whileI (fun mm σ' F' M' => ∃ (fs : List Tx) (wv : List V) (ps : List Pt) (w5 w6 w7 w8 w9 w10 w11 w12 w13 w14 w15 : Option V), M' = (wa, HO.lst wv) :: (fo, HO.lst (fs.map txV)) :: M ∧
      σ' = [some (.ref a), some (.int (x : Int)), some (.int (y : Int)), some (.ref fo), some (.ref wa), w5, w6, w7, w8, w9, w10, w11, w12, w13, w14, w15] ∧
      DpAll K F' wv (ps.map ptD) ∧ ((∀ z ∈ ps, PtK ts.length ts z) ∨ ps = [(ts.length - 1, x, x, false)]) ∧ fs.flatten ++ ptsT ts ps.reverse = cut (whole ts) x y ∧ (∀ f ∈ fs, f ≠ []) ∧ mm = ptM ps)
    (ptM [(ts.length - 1, x, y, false)])
    ⟨[], [.ref t0], [(ts.length - 1, x, y, false)], _, _, _, _, _, _, _, _, _, _, _, rfl, rfl, .cons (dp_ptI (hT0 K).h) .nil, ?_, ?_, by simp, rfl⟩ ?_
  · by_cases hc : x < y
    · left
      intro z hz
      rw [List.mem_singleton.mp hz]
      exact ⟨by show ts.length - 1 < ts.length; omega, hc, hyl⟩
    · right
      rw [show y = x by omega]
  · show [] ++ ptsT ts [(ts.length - 1, x, y, false)] = _
    rw [ptsT_one]; rfl
  rintro mm σ' F' M' H' hF hs' ⟨fs, wv, ps, w5, w6, w7, w8, w9, w10, w11, w12, w13, w14, w15, rfl, rfl, hd, hK, he, hf, rfl⟩
  have hfl := flat_len hf
  have htot := congrArg List.length he
  rw [List.length_append, htgt] at htot
  rcases List.eq_nil_or_concat ps with rfl | ⟨ps', pt, rfl⟩
  · cases hd
    walk_at "py"
    refine whN ?_
    walk_at "py"
    have he2 : fs.flatten = cut (whole ts) x y := by rw [← he]; simp [ptsT]
    rw [empty_eq]
    walk_at "py"
    refine nJoinO (ys := fs) rfl (by rw [he2, htgt]; omega) ?_
    rw [he2]
    exact k1 x y F' H' rfl rfl hxy hyl hx1 (hF2.h.trans hF.h) ((hs'.drop 0).drop 0)
  · rw [List.concat_eq_append] at hd hK he htot ⊢
    rw [List.map_append] at hd
    obtain ⟨wv', v, rfl, hd', hv⟩ := dpa_snoc hd
    obtain ⟨tb, rfl, htb⟩ := dp_pt hv
    obtain ⟨num, lo, hi, trn⟩ := pt
    have hFT : FzT K F' tb [.int (num : Int), .int (lo : Int), .int (hi : Int), .bl trn] := ⟨htb⟩
    rw [List.reverse_append] at he htot
    have hnum : num < ts.length := by
      rcases hK with hK | hK
      · exact (hK _ (List.mem_append_right _ (List.mem_singleton.mpr rfl))).1
      · obtain ⟨-, h⟩ := snoc_one hK
        cases h; omega
    obtain ⟨r, hrr⟩ : ∃ r, rs[num]? = some r := ⟨_, List.getElem?_eq_getElem (by omega)⟩
    obtain ⟨b, hb, hbS⟩ := dp_rus h3 hrr
    obtain ⟨hk1, hk2, hk3⟩ := hO.tab.ok num r hrr
    have hgt : gt ts num = ruT ts r := gt_at hk2
    have hbT : FzT K F b (ruV r) := ⟨hbS⟩
    walk_at "py"
    refine whY ?_
    walk_at "py"
    refine nPop fun H4 hs4 => ?_
    walk_at "py"
    refine nIxT (atI_nat hb) ?_
    walk_at "py"
    have hpp : ptM (ps' ++ [(num, lo, hi, trn)]) = ptM ps' + (2 * (hi - lo) * (num + 1) + 1) := by rw [ptM_app]; simp [ptM]
    refine ifP (fun c => ?_) (fun c => ?_)
    · have hcase : (∀ z ∈ ps' ++ [(num, lo, hi, trn)], PtK ts.length ts z) := by
        rcases hK with hK | hK
        · exact hK
        · obtain ⟨-, h⟩ := snoc_one hK
          cases h; omega
      have hps' : ∀ z ∈ ps', PtK ts.length ts z := fun z hz => hcase z (List.mem_append_left _ hz)
      obtain ⟨g1, g2, g3⟩ := hcase _ (List.mem_append_right _ (List.mem_singleton.mpr rfl))
      have g2 : lo < hi := g2
      have g3 : hi ≤ (gt ts num).length := g3
      have hll := ptL_len (ts := ts) (n := ts.length) (ps := [(num, lo, hi, trn)] ++ ps'.reverse) (by
        intro z hz
        rcases List.mem_append.mp hz with hz | hz
        · exact hcase z (List.mem_append_right _ hz)
        · exact hps' z (List.mem_reverse.mp hz))
      have hll2 : ptL ([(num, lo, hi, trn)] ++ ps'.reverse) = (hi - lo) + ptL ps' := by rw [ptL_app, ptM_rev.2]; simp [ptL]
      have e0 : [(num, lo, hi, trn)].reverse ++ ps'.reverse = [(num, lo, hi, trn)] ++ ps'.reverse := rfl
      rw [e0] at he htot
      rw [hll, hll2] at htot
      rw [ptsT_app, ptsT_one] at he
      have hpl := (ptM_le hps').2
      have hwl := dpa_len hd'
      rw [List.length_map] at hwl
      by_cases hwri : ∃ w, r = .wri w
      · obtain ⟨wt, rfl⟩ := hwri
        have : FzT K F b [.str "letters", .str (S wt)] := ⟨hbS⟩
        have hwt : gt ts num = wt := hgt
        have hk : wt.length ≤ 64 := hk1.1
        rw [hwt] at g3
        walk_at "py"
        refine nCutS (by omega) cutS_nat ?_
        walk_at "py"
        have hcl : (cut wt lo hi).length = hi - lo := cut_len' g3
        have fin : ∀ z : Tx, ptT ts (num, lo, hi, trn) = z → ∀ H5, Hs F' ((wa, HO.lst wv') :: (fo, HO.lst (fs.map txV ++ [.str (S z)])) :: M) H5 → WvH F2 (fun mm σ' F' M' => ∃ (fs : List Tx) (wv : List V) (ps : List Pt) (w5 w6 w7 w8 w9 w10 w11 w12 w13 w14 w15 : Option V), M' = (wa, HO.lst wv) :: (fo, HO.lst (fs.map txV)) :: M ∧
      σ' = [some (.ref a), some (.int (x : Int)), some (.int (y : Int)), some (.ref fo), some (.ref wa), w5, w6, w7, w8, w9, w10, w11, w12, w13, w14, w15] ∧
      DpAll K F' wv (ps.map ptD) ∧ ((∀ z ∈ ps, PtK ts.length ts z) ∨ ps = [(ts.length - 1, x, x, false)]) ∧ fs.flatten ++ ptsT ts ps.reverse = cut (whole ts) x y ∧ (∀ f ∈ fs, f ≠ []) ∧ mm = ptM ps) (ptM (ps' ++ [(num, lo, hi, trn)])) [some (.ref a), some (.int (x : Int)), some (.int (y : Int)), some (.ref fo), some (.ref wa), some (.int (num : Int)), some (.int (lo : Int)), some (.int (hi : Int)), some (.bl trn), some (.ref b), some (.str (S (cut wt lo hi))), w11, w12, w13, w14, w15] H5 := by
          intro z hz H5 hs5
          refine WvH.mk (m' := ptM ps') (by rw [hpp]; omega) hF.h hs5 ⟨fs ++ [z], wv', ps', _, _, _, _, _, _, _, _, _, _, _, by rw [List.map_append]; rfl, rfl, hd', .inl hps', ?_, ?_, rfl⟩
          · rw [← he, ← hz]; simp
          · intro f hf2
            rcases List.mem_append.mp hf2 with hf2 | hf2
            · exact hf f hf2
            · rw [List.mem_singleton.mp hf2, ← hz]
              have : (ptT ts (num, lo, hi, trn)).length = hi - lo := by
                unfold ptT
                simp only [hwt]
                split
                · rw [List.length_reverse, hcl]
                · exact hcl
              intro e
              rw [e] at this
              simp at this; omega
        cases trn with
        | true =>
          walk_at "py"
          refine nRevS_mk (by show (cut wt lo hi).length ≤ _; omega) ?_
          walk_at "py"
          refine nAppend (by rw [List.length_map]; omega) fun H5 hs5 => ?_
          exact fin _ (by unfold ptT; rw [if_pos rfl]; simp only [hwt]; rfl) H5 hs5
        | false =>
          walk_at "py"
          refine nAppend (by rw [List.length_map]; omega) fun H5 hs5 => ?_
          exact fin _ (by unfold ptT; rw [if_neg Bool.false_ne_true]; simp only [hwt]; rfl) H5 hs5
      · have hnw : ∀ w, r ≠ .wri w := fun w e => hwri ⟨w, e⟩
        have hwd : ∃ z : Str, (ruV r)[0]? = some (.str z) ∧ decide (z = ("letters" : Str)) = false := by
          cases r with
          | wri w => exact absurd rfl (hnw w)
          | join i j => exact ⟨_, rfl, Wd.h (r := false)⟩
          | power i j => exact ⟨_, rfl, Wd.h (r := false)⟩
          | part i j k => exact ⟨_, rfl, Wd.h (r := false)⟩
          | back i => exact ⟨_, rfl, Wd.h (r := false)⟩
        obtain ⟨z, hz0, hz⟩ := hwd
        have : At (ruV r) 0 (.str z) := atN (n := 0) hz0
        have : Wd z "letters" false := ⟨hz⟩
        walk_at "py"
        refine ifPT c ?_
        walk_at "py"
        refine ⟨F', _, b, tq, r, ts, num, lo, hi, hs4, rfl, same_t hF.h (same_t hF2.h hbS), same_t hF.h (same_t hF2.h h4), hk1, by omega, hO.tab.le, hnw, g2, by rw [← hgt]; exact g3, by omega, fun pa pv P F5 H5 hpa e5 hs5 hdP hPK hPT => ?_⟩
        have hF5 : Sm F' F5 := ⟨e5⟩
        have hPl := pts_le hPK hPT
        rw [← hgt, cut_len' g3] at hPl
        have hPM := (ptM_le hPK).1
        have hPK2 : ∀ z ∈ P, PtK ts.length ts z := fun z hz => ⟨Nat.lt_trans (hPK z hz).1 hnum, (hPK z hz).2⟩
        have hptT : ptT ts (num, lo, hi, trn) = if trn = true then (ptsT ts P).reverse else ptsT ts P := by
          rw [hPT, ← hgt]; rfl
        -- the loop that pushes
        have loop : ∀ (L : List Pt) pv' H6, L = (if trn = true then P else P.reverse) → DpAll K F5 pv' (L.map ptD) → Hs F5 ((pa, HO.lst pv') :: (wa, HO.lst wv') :: (fo, HO.lst (fs.map txV)) :: M) H6 → ∀ (N : L2.St → Hp → Prop) (R : VK),
            (∀ F7 wv2 w12 w13 w14 w15 H7, Same F5 F7 → Hs F7 ((wa, HO.lst wv2) :: (fo, HO.lst (fs.map txV)) :: M) H7 → DpAll K F7 wv2 ((ps' ++ L.map (adj trn)).map ptD) → N [some (.ref a), some (.int (x : Int)), some (.int (y : Int)), some (.ref fo), some (.ref wa), some (.int (num : Int)), some (.int (lo : Int)), some (.int (hi : Int)), some (.bl trn), some (.ref b), w10, some (.ref pa), w12, w13, w14, w15] H7) →
            nSeqL K (.ref pa) H6 fun J H1 => nLoop (gTup K 4 (gCons (gName 12) (gCons (gName 13) (gCons (gName 14) (gCons (gName 15) gNil))))) (tDrop (tBM K "list" rAppend (tVar 4) (tCons (tTup (tCons (tVar 12) (tCons (tVar 13) (tCons (tVar 14) (tCons (tOp rNe (tVar 15) (tVar 8)) tNil))))) tNil))) N R
              [some (.ref a), some (.int (x : Int)), some (.int (y : Int)), some (.ref fo), some (.ref wa), some (.int (num : Int)), some (.int (lo : Int)), some (.int (hi : Int)), some (.bl trn), some (.ref b), w10, some (.ref pa), w12, w13, w14, w15] J H1 := by
          intro L pv' H6 hL hdL hs6 N R kN
          have hLl : L.length ≤ 1000 := by
            rw [hL]
            split
            · omega
            · rw [List.length_reverse]; omega
          have hpvl := dpa_len hdL
          rw [List.length_map] at hpvl
          refine nLoopO (fun i σ' F' M' => ∃ (wv2 : List V) (w12 w13 w14 w15 : Option V), M' = (pa, HO.lst pv') :: (wa, HO.lst wv2) :: (fo, HO.lst (fs.map txV)) :: M ∧
              σ' = [some (.ref a), some (.int (x : Int)), some (.int (y : Int)), some (.ref fo), some (.ref wa), some (.int (num : Int)), some (.int (lo : Int)), some (.int (hi : Int)), some (.bl trn), some (.ref b), w10, some (.ref pa), w12, w13, w14, w15] ∧
              DpAll K F' wv2 ((ps' ++ (L.take i).map (adj trn)).map ptD)) ⟨wv', w12, w13, w14, w15, rfl, rfl, by simpa using dpa_mono e5 hd'⟩ ?_ ?_ ?_
          · rintro i σ' F' M' ⟨wv2, z1, z2, z3, z4, rfl, -, -⟩
            exact im0
          · rintro i xv σ' F7 M' H7 hi7 hF7 hs7 ⟨wv2, z1, z2, z3, z4, rfl, rfl, hd7⟩
            have hil := (List.getElem?_eq_some_iff.mp hi7).1
            obtain ⟨pt, hpt⟩ : ∃ pt, L[i]? = some pt := ⟨_, List.getElem?_eq_getElem (by omega)⟩
            obtain ⟨d, hd1, hd2⟩ := dpa_at hdL hi7
            rw [List.getElem?_map, hpt] at hd1
            cases hd1
            obtain ⟨tc, rfl, htc⟩ := dp_pt hd2
            obtain ⟨n1, l1, h1, f1⟩ := pt
            have : FzT K F7 tc [.int (n1 : Int), .int (l1 : Int), .int (h1 : Int), .bl f1] := ⟨same_t hF7.h htc⟩
            have hw2 := dpa_len hd7
            simp only [List.length_map, List.length_append, List.length_take] at hw2
            walk_at "py"
            rename_i t8 F8 H8 ht8 hF8 hs8 hT8 hz8
            refine nAppend (by omega) fun H9 hs9 => ?_
            refine .mk (hF7.h.trans hF8.h) hs9 ⟨_, _, _, _, _, rfl, rfl, ?_⟩
            rw [take_one hpt, List.map_append (f := adj trn), ← List.append_assoc, List.map_append (f := ptD)]
            exact dpa_app (dpa_mono hF8.h hd7) (.cons (dp_ptI (hT8 K).h) .nil)
          · rintro σ' F7 M' H7 hF7 hs7 ⟨wv2, z1, z2, z3, z4, rfl, rfl, hd7⟩
            rw [List.take_of_length_le (by omega)] at hd7
            exact kN F7 wv2 z1 z2 z3 z4 H7 hF7.h (hs7.drop 0) hd7
        have fin : ∀ F7 wv2 z12 z13 z14 z15 H7, Same F5 F7 → Hs F7 ((wa, HO.lst wv2) :: (fo, HO.lst (fs.map txV)) :: M) H7 → DpAll K F7 wv2 ((ps' ++ push trn P).map ptD) → WvH F2 (fun mm σ' F' M' => ∃ (fs : List Tx) (wv : List V) (ps : List Pt) (w5 w6 w7 w8 w9 w10 w11 w12 w13 w14 w15 : Option V), M' = (wa, HO.lst wv) :: (fo, HO.lst (fs.map txV)) :: M ∧
      σ' = [some (.ref a), some (.int (x : Int)), some (.int (y : Int)), some (.ref fo), some (.ref wa), w5, w6, w7, w8, w9, w10, w11, w12, w13, w14, w15] ∧
      DpAll K F' wv (ps.map ptD) ∧ ((∀ z ∈ ps, PtK ts.length ts z) ∨ ps = [(ts.length - 1, x, x, false)]) ∧ fs.flatten ++ ptsT ts ps.reverse = cut (whole ts) x y ∧ (∀ f ∈ fs, f ≠ []) ∧ mm = ptM ps) (ptM (ps' ++ [(num, lo, hi, trn)])) [some (.ref a), some (.int (x : Int)), some (.int (y : Int)), some (.ref fo), some (.ref wa), some (.int (num : Int)), some (.int (lo : Int)), some (.int (hi : Int)), some (.bl trn), some (.ref b), w10, some (.ref pa), z12, z13, z14, z15] H7 := by
          intro F7 wv2 z12 z13 z14 z15 H7 e7 hs7 hd7
          obtain ⟨m1, m2, m3⟩ := push_M (d := trn) (ps := P)
          refine WvH.mk (m' := ptM (ps' ++ push trn P)) ?_ (hF.h.trans (e5.trans e7)) hs7 ⟨fs, wv2, ps' ++ push trn P, _, _, _, _, _, _, _, _, _, _, _, rfl, rfl, hd7, .inl ?_, ?_, hf, rfl⟩
          · rw [hpp, ptM_app, m1]
            have e1 : 2 * ptL P * num = 2 * (hi - lo) * num := by rw [hPl.2]
            have e2 : 2 * (hi - lo) * (num + 1) = 2 * (hi - lo) * num + 2 * (hi - lo) := by rw [Nat.mul_add, Nat.mul_one]
            omega
          · intro z hz
            rcases List.mem_append.mp hz with hz | hz
            · exact hps' z hz
            · exact push_mem hPK2 z hz
          · rw [List.reverse_append, ptsT_app, push_T, ← hptT]
            exact he
        cases trn with
        | true =>
          walk_at "py"
          exact loop P pv H5 rfl hdP hs5 _ _ fun F7 wv2 z12 z13 z14 z15 H7 e7 hs7 hd7 => fin F7 wv2 z12 z13 z14 z15 H7 e7 hs7 hd7
        | false =>
          walk_at "py"
          refine nReverse fun H6 hs6 => ?_
          walk_at "py"
          refine loop P.reverse pv.reverse H6 rfl (by rw [List.map_reverse]; exact dpa_rev hdP) hs6 _ _ fun F7 wv2 z12 z13 z14 z15 H7 e7 hs7 hd7 => fin F7 wv2 z12 z13 z14 z15 H7 e7 hs7 hd7
    · walk_at "py"
      refine ifPF c ?_
      walk_at "py"
      refine WvH.mk (m' := ptM ps') (by rw [hpp]; omega) hF.h hs4 ⟨fs, wv', ps', _, _, _, _, _, _, _, _, _, _, _, rfl, rfl, hd', .inl ?_, ?_, hf, rfl⟩
      · rcases hK with hK | hK
        · intro z hz; exact hK z (List.mem_append_left _ hz)
        · rw [(snoc_one hK).1]; simp
      · rcases hK with hK | hK
        · have := (hK _ (List.mem_append_right _ (List.mem_singleton.mpr rfl))).2.1
          have : lo < hi := this
          omega
        · obtain ⟨h1, h2⟩ := snoc_one hK
          cases h2
          rw [← he, h1]
          have : ptsT ts ([(ts.length - 1, x, x, false)].reverse ++ ([] : List Pt).reverse) = [] := by
            show ptT ts (ts.length - 1, x, x, false) ++ [] = []
            unfold ptT
            rw [if_neg Bool.false_ne_true]
            rw [cut_nil (Nat.le_refl _)]; rfl
          rw [this]; rfl
end
end Sh


set_option Elab.async false
set_option linter.all false
set_option maxRecDepth 100000
set_option maxHeartbeats 4000000
namespace Sh
open PySem PySem.Spec PyProof.Rows L2
/-! the steps, by themselves as far as nothing is to be decided -/
set_option synthInstance.maxSize 4096
set_option synthInstance.maxHeartbeats 400000
local macro_rules | `(tactic| walk_at "sm") => `(tactic| first | assumption | exact Same.refl _ | exact Sm.h | (refine Same.trans ?_ Sm.h; walk_at "sm"))
local macro_rules | `(tactic| walk_at "py1") => `(tactic| first
  | refine go ?_
  | (with_reducible refine py_mulL (by omega) (by omega) ?_) | (with_reducible refine py_mulR (by omega) (by omega) ?_) | (with_reducible refine py_divI (by omega) (by omega) ?_) | (with_reducible refine py_modI (by omega) ?_)
  | (with_reducible refine nSet_mk ?_; intro _ _) | (with_reducible refine nTupF (by simp) ?_; intro _ _ _ _ _ _ _ _) | (with_reducible refine nLstO (by simp) ?_; intro _ _ _ _)
  | (with_reducible refine nRng1_mk (by omega) (by omega) ?_) | (with_reducible refine nRng2_mk (by omega) (by omega) (by omega) (by omega) ?_))
local macro_rules | `(tactic| walk_at "py") => `(tactic| repeat (walk_at "py1"))
def N_law_pool : List Str := ["_law_script", "_law_cell"]
theorem st_law_pool {v0 : V} : start N_law_pool [v0] = [some v0, none] := rfl
def t_law_pool (K : PySem.W.Frag) : TS := (tRet (tLst (tCons (tLc (iList K (tVar 0)) (gName 1) tYes (tIf (tTest (tOp rGeI (tVar 1) (tC (.int 0)))) (tOp rMulI (tC (.int 2)) (tVar 1)) (tOp rSubI (tOp rMulI (tUn rNegI (tC (.int 2))) (tVar 1)) (tC (.int 1)))) [1]) (tCons (tC (.int 0)) (tCons (tC (.int 0)) (tCons (tC (.int 17)) tNil))))))
def N_law_take : List Str := ["_law_pool_here", "_law_many", "_law_digit", "_law_cell", "_law_mixed"]
theorem st_law_take {v0 v1 : V} : start N_law_take [v0, v1] = [some v0, some v1, none, none, none] := rfl
def t_law_take (K : PySem.W.Frag) (sp_law_take : Sp) : TS := (tSeq (tIfS (tTest (tOp rGtI (tOp (rIx K) (tVar 0) (tC (.int 2))) (tC (.int 0)))) (tSeq (tAsg (tOp rModI (tCB rInt1 (tCons (tOp (rIx K) (tVar 0) (tC (.int 2))) tNil)) (tVar 1)) (gName 2)) (tSeq (tAsg (tOp rDivI (tOp (rIx K) (tVar 0) (tC (.int 2))) (tVar 1)) (gSub (tVar 0) (tC (.int 2)) rSetL)) (tRet (tVar 2)))) tNext) (tSeq (tAsg (tC (.int 0)) (gName 3)) (Evl.tCut (tIfS (tTest (tOp rLtI (tOp (rIx K) (tVar 0) (tC (.int 1))) (tCB (rLn K) (tCons (tOp (rIx K) (tVar 0) (tC (.int 0))) tNil)))) (tAsg (tOp (rIx K) (tOp (rIx K) (tVar 0) (tC (.int 0))) (tOp (rIx K) (tVar 0) (tC (.int 1)))) (gName 3)) tNext) (tSeq (tAsg (tOp rAddI (tOp (rIx K) (tVar 0) (tC (.int 1))) (tC (.int 1))) (gSub (tVar 0) (tC (.int 1)) rSetL)) (tSeq (tIfS (tTest (tOp rGeI (tVar 3) (tOp rPowI (tC (.int 10)) (tC (.int 18))))) (tSeq (tAsg (tOp rDivI (tVar 3) (tC (.int 2))) (gSub (tVar 0) (tC (.int 2)) rSetL)) (tRet (tCall sp_law_take [] E0 (tCons (tVar 0) (tCons (tVar 1) tNil))))) tNext) (tSeq (tAsg (tOp rModI (tCB rInt1 (tCons (tOp rAddI (tOp rAddI (tOp rMulI (tOp (rIx K) (tVar 0) (tC (.int 3))) (tC (.int 48271))) (tOp rMulI (tVar 3) (tC (.int 69621)))) (tOp rMulI (tOp (rIx K) (tVar 0) (tC (.int 1))) (tC (.int 613)))) tNil)) (tC (.int 2147483647))) (gSub (tVar 0) (tC (.int 3)) rSetL)) (tSeq (tAsg (tOp rModI (tCB rInt1 (tCons (tOp rAddI (tOp rAddI (tOp rMulI (tOp (rIx K) (tVar 0) (tC (.int 3))) (tOp (rIx K) (tVar 0) (tC (.int 3)))) (tOp rMulI (tOp (rIx K) (tVar 0) (tC (.int 3))) (tC (.int 7919)))) (tC (.int 104729))) tNil)) (tC (.int 1000000007))) (gName 4)) (tRet (tOp rModI (tCB rInt1 (tCons (tOp rDivI (tVar 4) (tC (.int 3))) tNil)) (tVar 1))))))))))
def N_law_is_integer : List Str := ["_law_actual"]
theorem st_law_is_integer {v0 : V} : start N_law_is_integer [v0] = [some v0] := rfl
def t_law_is_integer (K : PySem.W.Frag) : TS := (tRet (tAndV (tCB (rIsi K) (tCons (tVar 0) (tCons (tC (.ty "int")) tNil))) (tNotV (tCB (rIsi K) (tCons (tVar 0) (tCons (tC (.ty "bool")) tNil))))))
def N_law_same : List Str := ["_law_actual", "_law_due", "_law_k"]
theorem st_law_same {v0 v1 : V} : start N_law_same [v0, v1] = [some v0, some v1, none] := rfl
def t_law_same (K : PySem.W.Frag) (sp_law_same : Sp) (sp_law_is_integer : Sp) : TS := (tSeq (tIfS (tB (tCB (rIsi K) (tCons (tVar 1) (tCons (tC (.ty "tuple")) tNil)))) (tSeq (tIfS (tOr (tNot (tB (tCB (rIsi K) (tCons (tVar 0) (tCons (tC (.ty "tuple")) tNil))))) (tTest (tOp rNe (tCB (rLn K) (tCons (tVar 0) tNil)) (tCB (rLn K) (tCons (tVar 1) tNil))))) (tRet (tC (.bl false))) tNext) (tRet (tCB (rAll K) (tCons (tLc (iRng1 (tCons (tCB (rLn K) (tCons (tVar 1) tNil)) tNil)) (gName 2) tYes (tCall sp_law_same [] E0 (tCons (tOp (rIx K) (tVar 0) (tVar 2)) (tCons (tOp (rIx K) (tVar 1) (tVar 2)) tNil))) [2]) tNil)))) tNext) (tSeq (tIfS (tB (tCB (rIsi K) (tCons (tVar 1) (tCons (tC (.ty "list")) tNil)))) (tSeq (tIfS (tOr (tNot (tB (tCB (rIsi K) (tCons (tVar 0) (tCons (tC (.ty "list")) tNil))))) (tTest (tOp rNe (tCB (rLn K) (tCons (tVar 0) tNil)) (tCB (rLn K) (tCons (tVar 1) tNil))))) (tRet (tC (.bl false))) tNext) (tRet (tCB (rAll K) (tCons (tLc (iRng1 (tCons (tCB (rLn K) (tCons (tVar 1) tNil)) tNil)) (gName 2) tYes (tCall sp_law_same [] E0 (tCons (tOp (rIx K) (tVar 0) (tVar 2)) (tCons (tOp (rIx K) (tVar 1) (tVar 2)) tNil))) [2]) tNil)))) tNext) (tSeq (tIfS (tTest (tOp rIsNone (tVar 1) (tC .non))) (tRet (tOp rIsNone (tVar 0) (tC .non))) tNext) (tSeq (tIfS (tB (tCB (rIsi K) (tCons (tVar 1) (tCons (tC (.ty "bool")) tNil)))) (tRet (tAndV (tCB (rIsi K) (tCons (tVar 0) (tCons (tC (.ty "bool")) tNil))) (tOp rEq (tVar 0) (tVar 1)))) tNext) (tSeq (tIfS (tB (tCB (rIsi K) (tCons (tVar 1) (tCons (tC (.ty "str")) tNil)))) (tRet (tAndV (tCB (rIsi K) (tCons (tVar 0) (tCons (tC (.ty "str")) tNil))) (tOp rEq (tVar 0) (tVar 1)))) tNext) (tRet (tAndV (tCall sp_law_is_integer [] E0 (tCons (tVar 0) tNil)) (tOp rEq (tVar 0) (tVar 1)))))))))
/-! ### the pool of numbers -/
class Pool (K : PySem.W.Frag) (F : Hp) (o : HO) : Prop where
  h : ∃ (c : Addr) (ks : List Int) (i b m : Int), o = .lst [.ref c, .int i, .int b, .int m] ∧ SqL K F c (ks.map V.int) ∧ ks.length ≤ 63 ∧ (∀ k ∈ ks, 0 ≤ k) ∧ 0 ≤ i ∧ 0 ≤ b ∧ 0 ≤ m ∧ m < 2147483647
theorem Pool.mono {K : PySem.W.Frag} {F F' : Hp} {o : HO} (e : Same F F') (h : Pool K F o) : Pool K F' o := by
  obtain ⟨c, ks, i, b, m, h1, h2, h3⟩ := h.h
  exact ⟨c, ks, i, b, m, h1, same_l e h2, h3⟩
instance (priority := 900) {K : PySem.W.Frag} {F F' : Hp} {o : HO} [e : Sm F F'] [h : Pool K F o] : Pool K F' o := h.mono e.h
def sp_law_pool (K : PySem.W.Frag) : Sp := fun vs H Q _ => ∃ (F : Hp) (M : Ow) (a : Addr) (ns : List Int), Hs F M H ∧ vs = [.ref a] ∧ SqL K F a (ns.map V.int) ∧ ns.length ≤ 63 ∧
  ∀ p o F' H', Same F F' → Pool K F' o → Hs F' ((p, o) :: M) H' → Q (.ref p) H'
def sp_law_take (K : PySem.W.Frag) : Sp := fun vs H Q _ => ∃ (F : Hp) (M : Ow) (p : Addr) (o : HO) (n : Int) (m : HO → Ow), Hs F M H ∧ vs = [.ref p, .int n] ∧ Cell M p m ∧ Im M p o ∧ Pool K F o ∧ 0 < n ∧ n < 18446744073709551616 ∧
  ∀ r o' H', 0 ≤ r → r < n → Pool K F o' → Hs F (m o') H' → Q (.int r) H'
/-- .. while digits are left -/
def sp_law_take0 (K : PySem.W.Frag) : Sp := fun vs H Q _ => ∃ (F : Hp) (M : Ow) (p c : Addr) (i b z : Int) (n : Int) (m : HO → Ow), Hs F M H ∧ vs = [.ref p, .int n] ∧ Cell M p m ∧ Im M p (.lst [.ref c, .int i, .int b, .int z]) ∧ 0 < b ∧ 0 < n ∧ n < 18446744073709551616 ∧
  ∀ r b' H', 0 ≤ r → r < n → 0 ≤ b' → Hs F (m (.lst [.ref c, .int i, .int b', .int z])) H' → Q (.int r) H'
/-- data that may be told twice: no floats, no dicts; how deep it is, how long its rows are -/
def dOk : Nat → PyData → Prop
  | _, .none => True
  | _, .bool _ => True
  | _, .int _ => True
  | _, .str _ => True
  | n + 1, .tuple ds => ds.length ≤ 1000000 ∧ ∀ d ∈ ds, dOk n d
  | n + 1, .list ds => ds.length ≤ 1000000 ∧ ∀ d ∈ ds, dOk n d
  | _, _ => False
/-- both are the same data: the answer is True -/
def sp_law_same (K : PySem.W.Frag) (n : Nat) : Sp := fun vs H Q _ => ∃ (F : Hp) (M : Ow) (v w : V) (d : PyData), Hs F M H ∧ vs = [v, w] ∧ Dp K F v d ∧ Dp K F w d ∧ dOk n d ∧
  ∀ F' H', Same F F' → Hs F' M H' → Q (.bl true) H'
def sp_law_is_integer : Sp := fun vs H Q _ => ∃ i : Int, vs = [.int i] ∧ Q (.bl true) H
theorem take_go {K : PySem.W.Frag} {F H : Hp} {M : Ow} {p : Addr} {o : HO} {m : HO → Ow} {n : Int} {Q : VK} {E : XK} [hs : Hs F M H] [cc : Cell M p m] [hi : Im M p o] [hP : Pool K F o] (h0 : 0 < n) (h1 : n < 18446744073709551616)
    (k : ∀ r o' H', 0 ≤ r → r < n → Pool K F o' → Hs F (m o') H' → Q (.int r) H') : sp_law_take K [.ref p, .int n] H Q E := ⟨F, M, p, o, n, m, hs, rfl, cc, hi, hP, h0, h1, k⟩
section
variable {K : PySem.W.Frag}
theorem pure_law_pool (vs : List V) (H : Hp) (Q : VK) (E : XK) (h : sp_law_pool K vs H Q E) : t_law_pool K { nx := fun _ H' => Q .non H', rt := Q } (start N_law_pool vs) H := by
  obtain ⟨F, M, a, ns, hs, rfl, hx, hl, k⟩ := h
  unfold t_law_pool
  rw [st_law_pool]
  walk_at "py"
  have : FzL K F a (ns.map V.int) := ⟨hx⟩
  refine nCompL (fun i acc F' M' => M' = M ∧ ∃ ks : List Int, acc = ks.map V.int ∧ ks.length = i ∧ ∀ k ∈ ks, 0 ≤ k) ⟨rfl, [], rfl, rfl, by simp⟩ ?_ ?_
  · rintro i x acc D F' M' H' hi e hs' ⟨rfl, ks, rfl, hk, hp⟩
    have hlen := (List.getElem?_eq_some_iff.mp hi).1
    rw [List.length_map] at hlen
    rw [List.getElem?_map] at hi
    obtain ⟨z, hz, rfl⟩ := Option.map_eq_some_iff.mp hi
    walk_at "py"
    refine ifP (fun h => ?_) (fun h => ?_)
    · walk_at "py"
      refine .mk (by walk_at "sm") hs' (by simp; omega) ⟨rfl, ks ++ [2 * z], by simp, by simp [hk], fun k hm => ?_⟩
      rcases List.mem_append.mp hm with hm | hm
      · exact hp k hm
      · rw [List.mem_singleton.mp hm]; omega
    · walk_at "py"
      refine .mk (by walk_at "sm") hs' (by simp; omega) ⟨rfl, ks ++ [-2 * z - 1], by simp, by simp [hk], fun k hm => ?_⟩
      rcases List.mem_append.mp hm with hm | hm
      · exact hp k hm
      · rw [List.mem_singleton.mp hm]; omega
  · rintro D acc F' M' H' hD e hs' ⟨rfl, ks, rfl, hk, hp⟩
    walk_at "py"
    rename_i p H2 hp1 hs2
    have hs3 := hs2.freeze (j := 1) rfl
    refine k p _ _ H2 (e.h.trans (hs2.same_freeze (j := 1) rfl)) ⟨D, ks, 0, 0, 17, rfl, .inl (.inl upd_same), by rw [hk, List.length_map]; exact hl, hp, by decide, by decide, by decide, by decide⟩ hs3
theorem pure_law_take0 (sp : Sp) (vs : List V) (H : Hp) (Q : VK) (E : XK) (h : sp_law_take0 K vs H Q E) : t_law_take K sp { nx := fun _ H' => Q .non H', rt := Q } (start N_law_take vs) H := by
  obtain ⟨F, M, p, c, i, b, z, n, m, hs, rfl, cc, hm, hb, hn, hn2, k⟩ := h
  have hw := cell_sw cc
  unfold t_law_take
  rw [st_law_take]
  walk_at "py"
  refine ifPT hb ?_
  walk_at "py"
  refine nSetL fun H' hs' => ?_
  walk_at "py"
  exact k _ _ _ (Int.emod_nonneg _ (by omega)) (Int.emod_lt_of_pos _ hn) (Int.ediv_nonneg (by omega) (by omega)) hs'
theorem pure_law_take (vs : List V) (H : Hp) (Q : VK) (E : XK) (h : sp_law_take K vs H Q E) : t_law_take K (sp_law_take0 K) { nx := fun _ H' => Q .non H', rt := Q } (start N_law_take vs) H := by
  obtain ⟨F, M, p, o, n, m, hs, rfl, cc, hm, ⟨⟨c, ks, i, b, z, rfl, hc, hl, hp, hi, hb, hz0, hz1⟩⟩, hn, hn2, k⟩ := h
  by_cases hb0 : 0 < b
  · exact pure_law_take0 _ _ _ _ E ⟨F, M, p, c, i, b, z, n, m, hs, rfl, cc, hm, hb0, hn, hn2, fun r b' H' h1 h2 h3 hs' => k r _ H' h1 h2 ⟨c, ks, i, b', z, rfl, hc, hl, hp, hi, h3, hz0, hz1⟩ hs'⟩
  · have hb1 : b = 0 := by omega
    subst hb1
    have hw := cell_sw cc
    have hw2 := cell_sw2 cc
    have hi2 := cell_im cc
    have : FzL K F c (ks.map V.int) := ⟨hc⟩
    unfold t_law_take
    rw [st_law_take]
    walk_at "py"
    refine ifPF (by omega) ?_
    walk_at "py"
    refine cutI (I := fun σ' F' M' => F' = F ∧ M' = M ∧ ∃ z1 : Int, 0 ≤ z1 ∧ σ' = [some (.ref p), some (.int n), none, some (.int z1), none]) ?_ ?_
    · walk_at "py"
      rw [List.length_map]
      refine ifP (fun h => ?_) (fun h => ?_)
      · walk_at "py"
        have h2 : i.toNat < ks.length := by omega
        refine nIxL (v := .int ks[i.toNat]) ?_ ?_
        · have e : i = ((i.toNat : Nat) : Int) := by omega
          generalize i.toNat = j at *
          subst e
          exact atI_nat (by rw [List.getElem?_map, List.getElem?_eq_getElem h2]; rfl)
        · walk_at "py"
          exact ⟨F, M, Same.refl F, hs, rfl, rfl, _, hp _ (List.getElem_mem h2), rfl⟩
      · walk_at "py"
        exact ⟨F, M, Same.refl F, hs, rfl, rfl, 0, by decide, rfl⟩
    rintro σ' F' M' H1 - hs1 ⟨rfl, rfl, z1, hz1', rfl⟩
    walk_at "py"
    refine nSetL fun H2 hs2 => ?_
    walk_at "py"
    refine ifP (fun h => ?_) (fun h => ?_)
    · walk_at "py"
      refine nSetL fun H3 hs3 => ?_
      walk_at "py"
      exact ⟨F', _, p, c, i + 1, z1 / 2, z, n, m, hs3, rfl, cell_cell cc _, hi2 _, by omega, hn, hn2, fun r b' H4 h1 h2 h3 hs4 => k r _ H4 h1 h2 ⟨c, ks, i + 1, b', z, rfl, hc, hl, hp, by omega, h3, hz0, hz1⟩ hs4⟩
    · walk_at "py"
      refine nSetL fun H3 hs3 => ?_
      generalize hm' : (z * 48271 + z1 * 69621 + (i + 1) * 613) % 2147483647 = z' at hs3
      have m0 : 0 ≤ z' := by rw [← hm']; exact Int.emod_nonneg _ (by omega)
      have m1 : z' < 2147483647 := by rw [← hm']; exact Int.emod_lt_of_pos _ (by omega)
      walk_at "py"
      exact k _ _ H3 (Int.emod_nonneg _ (by omega)) (Int.emod_lt_of_pos _ hn) ⟨c, ks, i + 1, 0, z', rfl, hc, hl, hp, by omega, by omega, m0, m1⟩ hs3
theorem pure_law_is_integer (vs : List V) (H : Hp) (Q : VK) (E : XK) (h : sp_law_is_integer vs H Q E) : t_law_is_integer K { nx := fun _ H' => Q .non H', rt := Q } (start N_law_is_integer vs) H := by
  obtain ⟨i, rfl, k⟩ := h
  unfold t_law_is_integer
  rw [st_law_is_integer]
  walk_at "py"
  exact k
theorem pure_law_same (n : Nat) (sp : Sp) (hsp : ∀ m, n = m + 1 → ∀ vs H Q E, sp_law_same K m vs H Q E → sp vs H Q E) (vs : List V) (H : Hp) (Q : VK) (E : XK) (h : sp_law_same K n vs H Q E) :
    t_law_same K sp sp_law_is_integer { nx := fun _ H' => Q .non H', rt := Q } (start N_law_same vs) H := by
  obtain ⟨F, M, v, w, d, hs, rfl, hv, hw, hd, k⟩ := h
  unfold t_law_same
  rw [st_law_same]
  cases hv with
  | non =>
    cases hw
    walk_at "py"
    exact k F H (Same.refl F) hs
  | bl b =>
    cases hw
    walk_at "py"
    rw [decide_eq_true rfl]
    exact k F H (Same.refl F) hs
  | int i =>
    cases hw
    walk_at "py"
    refine ⟨i, rfl, ?_⟩
    walk_at "py"
    rw [decide_eq_true rfl]
    exact k F H (Same.refl F) hs
  | str x =>
    cases hw
    walk_at "py"
    rw [decide_eq_true rfl]
    exact k F H (Same.refl F) hs
  | @lst a xs ds hx hr =>
    cases hw with
    | @lst b ys _ hy hq =>
      obtain _ | n := n
      · exact hd.elim
      obtain ⟨hl, hd⟩ := hd
      have : FzL K F a xs := ⟨hx⟩
      have : FzL K F b ys := ⟨hy⟩
      walk_at "py"
      refine ifNF ?_ ?_
      · rw [dpa_len hr, dpa_len hq]
      have := dpa_len hq
      walk_at "py"
      refine nCompR (fun i acc F' M' => M' = M ∧ acc = List.replicate i (V.bl true)) ⟨rfl, rfl⟩ ?_ ?_
      · rintro i acc D F' M' H' hi hF hs' ⟨rfl, rfl⟩
        obtain ⟨v1, d1, e1, e2, e3⟩ := dpa_get (i := i) hr (by omega)
        obtain ⟨v2, d2, e4, e5, e6⟩ := dpa_get (i := i) hq (by omega)
        rw [e2] at e5; cases e5
        have a1 : At xs (0 + (i : Int)) v1 := ⟨by rw [Int.zero_add]; exact atI_nat e1⟩
        have a2 : At ys (0 + (i : Int)) v2 := ⟨by rw [Int.zero_add]; exact atI_nat e4⟩
        walk_at "py"
        refine hsp n rfl _ _ _ _ ⟨F', _, v1, v2, d1, hs', rfl, dp_mono hF.h e3, dp_mono hF.h e6, hd _ (List.mem_of_getElem? e2), fun F2 H2 e7 hs2 => ?_⟩
        exact .mk (hF.h.trans e7) hs2 (by simp; omega) ⟨rfl, by rw [List.replicate_succ']⟩
      · rintro D acc F' M' H' hD hF hs' ⟨rfl, rfl⟩
        walk_at "py"
        refine nAllT ?_
        exact k F' H' hF.h (hs'.drop 0)
  | @tup a xs ds hx hr =>
    cases hw with
    | @tup b ys _ hy hq =>
      obtain _ | n := n
      · exact hd.elim
      obtain ⟨hl, hd⟩ := hd
      have : FzT K F a xs := ⟨hx⟩
      have : FzT K F b ys := ⟨hy⟩
      walk_at "py"
      refine ifNF ?_ ?_
      · rw [dpa_len hr, dpa_len hq]
      have := dpa_len hq
      walk_at "py"
      refine nCompR (fun i acc F' M' => M' = M ∧ acc = List.replicate i (V.bl true)) ⟨rfl, rfl⟩ ?_ ?_
      · rintro i acc D F' M' H' hi hF hs' ⟨rfl, rfl⟩
        obtain ⟨v1, d1, e1, e2, e3⟩ := dpa_get (i := i) hr (by omega)
        obtain ⟨v2, d2, e4, e5, e6⟩ := dpa_get (i := i) hq (by omega)
        rw [e2] at e5; cases e5
        have a1 : At xs (0 + (i : Int)) v1 := ⟨by rw [Int.zero_add]; exact atI_nat e1⟩
        have a2 : At ys (0 + (i : Int)) v2 := ⟨by rw [Int.zero_add]; exact atI_nat e4⟩
        walk_at "py"
        refine hsp n rfl _ _ _ _ ⟨F', _, v1, v2, d1, hs', rfl, dp_mono hF.h e3, dp_mono hF.h e6, hd _ (List.mem_of_getElem? e2), fun F2 H2 e7 hs2 => ?_⟩
        exact .mk (hF.h.trans e7) hs2 (by simp; omega) ⟨rfl, by rw [List.replicate_succ']⟩
      · rintro D acc F' M' H' hD hF hs' ⟨rfl, rfl⟩
        walk_at "py"
        refine nAllT ?_
        exact k F' H' hF.h (hs'.drop 0)
end
end Sh


set_option Elab.async false
set_option linter.all false
set_option maxRecDepth 100000
set_option maxHeartbeats 4000000
namespace Sh
open PySem PySem.Spec PyProof.Rows L2
/-! the steps, by themselves as far as nothing is to be decided -/
set_option synthInstance.maxSize 4096
set_option synthInstance.maxHeartbeats 400000
local macro_rules | `(tactic| walk_at "sm") => `(tactic| first | assumption | exact Same.refl _ | exact Sm.h | (refine Same.trans ?_ Sm.h; walk_at "sm"))
local macro_rules | `(tactic| walk_at "py1") => `(tactic| first
  | refine go ?_
  | (with_reducible refine py_mulL (by omega) (by omega) ?_) | (with_reducible refine py_mulR (by omega) (by omega) ?_) | (with_reducible refine py_divI (by omega) (by omega) ?_) | (with_reducible refine py_modI (by omega) ?_)
  | (with_reducible refine nSet_mk ?_; intro _ _) | (with_reducible refine nTupF (by simp) ?_; intro _ _ _ _ _ _ _ _) | (with_reducible refine nLstO (by simp) ?_; intro _ _ _ _)
  | (with_reducible refine nRng1_mk (by omega) (by omega) ?_) | (with_reducible refine nRng2_mk (by omega) (by omega) (by omega) (by omega) ?_))
local macro_rules | `(tactic| walk_at "py") => `(tactic| repeat (walk_at "py1"))
def N_law_written : List Str := ["_law_pool_here", "_law_signs", "_law_kind", "_law_many", "_law_row", "_law_k"]
theorem st_law_written {v0 : V} : start N_law_written [v0] = [some v0, none, none, none, none, none] := rfl
def t_law_written (K : PySem.W.Frag) (sp_law_take : Sp) : TS := (tSeq (tAsg (tC (.str " !\"#$&'()*+,-./0123456789:;<=>?@ABCDEFGHIJKLMNOPQRSTUVWXYZ[\\]^_`abcdefghijklmnopqrstuvwxyz{|}~")) (gName 1)) (tSeq (tAsg (tCall sp_law_take [] E0 (tCons (tVar 0) (tCons (tC (.int 6)) tNil))) (gName 2)) (tSeq (tAsg (tCall sp_law_take [] E0 (tCons (tVar 0) (tCons (tC (.int 6)) tNil))) (gName 3)) (tSeq (tIfS (tTest (tOp rEq (tVar 2) (tC (.int 0)))) (tAsg (tCall sp_law_take [] E0 (tCons (tVar 0) (tCons (tC (.int 65)) tNil))) (gName 3)) tNext) (tSeq (tAsg (tLst tNil) (gName 4)) (tSeq (tFor (iRng1 (tCons (tVar 3) tNil)) (gName 5) (tIfS (tTest (tOp rLtI (tVar 2) (tC (.int 3)))) (tDrop (tBM K "list" rAppend (tVar 4) (tCons (tOp (rIx K) (tVar 1) (tCall sp_law_take [] E0 (tCons (tVar 0) (tCons (tC (.int 94)) tNil)))) tNil))) (tDrop (tBM K "list" rAppend (tVar 4) (tCons (tOp (rIx K) (tC (.str "ab")) (tCall sp_law_take [] E0 (tCons (tVar 0) (tCons (tC (.int 2)) tNil)))) tNil))))) (tRet (tJoin K (tC (.str "")) (tVar 4)))))))))
def N_law_number : List Str := ["_law_pool_here", "_law_many"]
theorem st_law_number {v0 v1 : V} : start N_law_number [v0, v1] = [some v0, some v1] := rfl
def t_law_number (K : PySem.W.Frag) (sp_law_take : Sp) : TS := (tSeq (tIfS (tTest (tOp rGtI (tCall sp_law_take [] E0 (tCons (tVar 0) (tCons (tC (.int 3)) tNil))) (tC (.int 0)))) (tRet (tOp rSubI (tVar 1) (tC (.int 1)))) tNext) (tRet (tCall sp_law_take [] E0 (tCons (tVar 0) (tCons (tVar 1) tNil)))))
def N_law_next : List Str := ["_law_pool_here", "_law_texts", "_law_most", "_law_kind", "_law_first", "_law_size", "_law_second", "_law_times", "_law_start"]
theorem st_law_next {v0 v1 v2 : V} : start N_law_next [v0, v1, v2] = [some v0, some v1, some v2, none, none, none, none, none, none] := rfl
def t_law_next (K : PySem.W.Frag) (sp_law_take : Sp) (sp_law_written : Sp) (sp_law_number : Sp) : TS := (tSeq (tAsg (tCall sp_law_take [] E0 (tCons (tVar 0) (tCons (tC (.int 7)) tNil))) (gName 3)) (tSeq (tIfS (tOr (tTest (tOp rEq (tVar 3) (tC (.int 0)))) (tNot (tTru K (tVar 1)))) (tRet (tTup (tCons (tC (.str "letters")) (tCons (tCall sp_law_written [] E0 (tCons (tVar 0) tNil)) tNil)))) tNext) (tSeq (tAsg (tCall sp_law_number [] E0 (tCons (tVar 0) (tCons (tCB (rLn K) (tCons (tVar 1) tNil)) tNil))) (gName 4)) (tSeq (tAsg (tCB (rLn K) (tCons (tOp (rIx K) (tVar 1) (tVar 4)) tNil)) (gName 5)) (Evl.tCut (tIfS (tTest (tOp rLtI (tVar 3) (tC (.int 3)))) (tSeq (tAsg (tCall sp_law_take [] E0 (tCons (tVar 0) (tCons (tCB (rLn K) (tCons (tVar 1) tNil)) tNil))) (gName 6)) (tSeq (tIfS (tTest (tOp rEq (tCall sp_law_take [] E0 (tCons (tVar 0) (tCons (tC (.int 2)) tNil))) (tC (.int 1)))) (tSeq (tPar 4 6 (tCons (tVar 6) (tCons (tVar 4) tNil))) (tAsg (tCB (rLn K) (tCons (tOp (rIx K) (tVar 1) (tVar 4)) tNil)) (gName 5))) tNext) (tIfS (tTest (tOp rLeI (tOp rAddI (tCB (rLn K) (tCons (tOp (rIx K) (tVar 1) (tVar 4)) tNil)) (tCB (rLn K) (tCons (tOp (rIx K) (tVar 1) (tVar 6)) tNil))) (tVar 2))) (tRet (tTup (tCons (tC (.str "join")) (tCons (tVar 4) (tCons (tVar 6) tNil))))) tNext))) tNext) (Evl.tCut (tIfS (tTest (tOp rEq (tVar 3) (tC (.int 3)))) (tSeq (tAsg (tCall sp_law_take [] E0 (tCons (tVar 0) (tCons (tC (.int 6)) tNil))) (gName 7)) (tSeq (tIfS (tTest (tOp rEq (tVar 5) (tC (.int 0)))) (tAsg (tOp (rIx K) (tTup (tCons (tC (.int 0)) (tCons (tC (.int 1)) (tCons (tC (.int 7)) (tCons (tOp rPowI (tC (.int 10)) (tC (.int 12))) tNil))))) (tCall sp_law_take [] E0 (tCons (tVar 0) (tCons (tC (.int 4)) tNil)))) (gName 7)) tNext) (tIfS (tTest (tOp rLeI (tOp rMulI (tVar 5) (tVar 7)) (tVar 2))) (tRet (tTup (tCons (tC (.str "power")) (tCons (tVar 4) (tCons (tVar 7) tNil))))) tNext))) tNext) (tSeq (tIfS (tTest (tOp rLtI (tVar 3) (tC (.int 6)))) (tSeq (tAsg (tCall sp_law_take [] E0 (tCons (tVar 0) (tCons (tOp rAddI (tVar 5) (tC (.int 1))) tNil))) (gName 8)) (tRet (tTup (tCons (tC (.str "part")) (tCons (tVar 4) (tCons (tVar 8) (tCons (tOp rAddI (tVar 8) (tCall sp_law_take [] E0 (tCons (tVar 0) (tCons (tOp rAddI (tOp rSubI (tVar 5) (tVar 8)) (tC (.int 1))) tNil)))) tNil))))))) tNext) (tRet (tTup (tCons (tC (.str "back")) (tCons (tVar 4) tNil)))))))))))
def N_law_made : List Str := ["_law_texts", "_law_rule"]
theorem st_law_made {v0 v1 : V} : start N_law_made [v0, v1] = [some v0, some v1] := rfl
def t_law_made (K : PySem.W.Frag) : TS := (tSeq (tIfS (tTest (tOp rEq (tOp (rIx K) (tVar 1) (tC (.int 0))) (tC (.str "letters")))) (tRet (tOp (rIx K) (tVar 1) (tC (.int 1)))) tNext) (tSeq (tIfS (tTest (tOp rEq (tOp (rIx K) (tVar 1) (tC (.int 0))) (tC (.str "join")))) (tRet (tOp rAddS (tOp (rIx K) (tVar 0) (tOp (rIx K) (tVar 1) (tC (.int 1)))) (tOp (rIx K) (tVar 0) (tOp (rIx K) (tVar 1) (tC (.int 2)))))) tNext) (tSeq (tIfS (tTest (tOp rEq (tOp (rIx K) (tVar 1) (tC (.int 0))) (tC (.str "power")))) (tSeq (tIfS (tTest (tOp rEq (tOp (rIx K) (tVar 0) (tOp (rIx K) (tVar 1) (tC (.int 1)))) (tC (.str "")))) (tRet (tC (.str ""))) tNext) (tRet (tOp rRepS (tOp (rIx K) (tVar 0) (tOp (rIx K) (tVar 1) (tC (.int 1)))) (tOp (rIx K) (tVar 1) (tC (.int 2)))))) tNext) (tSeq (tIfS (tTest (tOp rEq (tOp (rIx K) (tVar 1) (tC (.int 0))) (tC (.str "part")))) (tRet (tSl rSlS (tOp (rIx K) (tVar 0) (tOp (rIx K) (tVar 1) (tC (.int 1)))) (tPart (tOp (rIx K) (tVar 1) (tC (.int 2)))) (tPart (tOp (rIx K) (tVar 1) (tC (.int 3)))))) tNext) (tRet (tRevS K (tOp (rIx K) (tVar 0) (tOp (rIx K) (tVar 1) (tC (.int 1))))))))))
def N_law_rules : List Str := ["_law_pool_here", "_law_most", "_law_rules_here", "_law_texts", "_law_k", "_law_rule"]
theorem st_law_rules {v0 v1 : V} : start N_law_rules [v0, v1] = [some v0, some v1, none, none, none, none] := rfl
def t_law_rules (K : PySem.W.Frag) (sp_law_take : Sp) (sp_law_next : Sp) (sp_law_made : Sp) : TS := (tSeq (tAsg (tLst tNil) (gName 2)) (tSeq (tAsg (tLst tNil) (gName 3)) (tSeq (tFor (iRng1 (tCons (tOp rAddI (tC (.int 1)) (tCall sp_law_take [] E0 (tCons (tVar 0) (tCons (tC (.int 20)) tNil)))) tNil)) (gName 4) (tSeq (tAsg (tCall sp_law_next [] E0 (tCons (tVar 0) (tCons (tVar 3) (tCons (tVar 1) tNil)))) (gName 5)) (tSeq (tDrop (tBM K "list" rAppend (tVar 2) (tCons (tVar 5) tNil))) (tDrop (tBM K "list" rAppend (tVar 3) (tCons (tCall sp_law_made [] E0 (tCons (tVar 3) (tCons (tVar 5) tNil))) tNil)))))) (tRet (tTup (tCons (tVar 2) (tCons (tVar 3) tNil)))))))
open SX (S)
/-! ### the law's drawn rules -/
instance cellApp {L M : Ow} {p : Addr} {m : HO → Ow} [c : Cell M p m] : Cell (L ++ M) p (fun o => L ++ m o) := by
  obtain ⟨j, o, h, e⟩ := c.h
  refine ⟨L.length + j, o, ?_, fun o' => ?_⟩
  · rw [List.getElem?_append_right (by omega), show L.length + j - L.length = j by omega]; exact h
  · rw [List.set_append_right _ _ (by omega), show L.length + j - L.length = j by omega, e]
instance imApp {L M : Ow} {p : Addr} {o : HO} [c : Im M p o] : Im (L ++ M) p o := by
  obtain ⟨j, h⟩ := c.h
  exact ⟨L.length + j, by rw [List.getElem?_append_right (by omega), show L.length + j - L.length = j by omega]; exact h⟩
instance swApp {L M M' : Ow} {p : Addr} {o : HO} [c : Sw M p o M'] : Sw (L ++ M) p o (L ++ M') := by
  obtain ⟨j, o', h, e⟩ := c.h
  refine ⟨L.length + j, o', ?_, ?_⟩
  · rw [List.getElem?_append_right (by omega), show L.length + j - L.length = j by omega]; exact h
  · rw [List.set_append_right _ _ (by omega), show L.length + j - L.length = j by omega, e]
section
variable (K : PySem.W.Frag)
def sp_law_written : Sp := fun vs H Q _ => ∃ (F : Hp) (M : Ow) (p : Addr) (o : HO) (m : HO → Ow), Hs F M H ∧ vs = [.ref p] ∧ Cell M p m ∧ Im M p o ∧ Pool K F o ∧
  ∀ (w : Tx) o' H', w.length ≤ 64 → (∀ c ∈ w, c ∈ signs) → Pool K F o' → Hs F (m o') H' → Q (.str (S w)) H'
def sp_law_number : Sp := fun vs H Q _ => ∃ (F : Hp) (M : Ow) (p : Addr) (o : HO) (m : HO → Ow) (n : Nat), Hs F M H ∧ vs = [.ref p, .int (n : Int)] ∧ Cell M p m ∧ Im M p o ∧ Pool K F o ∧ 0 < n ∧ n < 1000000000 ∧
  ∀ (r : Nat) o' H', r < n → Pool K F o' → Hs F (m o') H' → Q (.int (r : Int)) H'
/-- texts that are short, a rule behind them -/
def sp_law_next : Sp := fun vs H Q _ => ∃ (F : Hp) (M : Ow) (p t : Addr) (o : HO) (m : HO → Ow) (ts : List Tx) (most : Nat), Hs F M H ∧ vs = [.ref p, .ref t, .int (most : Int)] ∧ Cell M p m ∧ Im M p o ∧ Pool K F o ∧ (∀ o, Im (m o) t (.lst (ts.map txV))) ∧ Im M t (.lst (ts.map txV)) ∧
  ts.length ≤ 1000 ∧ 64 ≤ most ∧ most ≤ 100000 ∧ (∀ i, (gt ts i).length ≤ most) ∧
  ∀ (r : Ru) b o' F' H', Same F F' → Hs F' (m o') H' → Pool K F' o' → RuK ts.length ts r → (ruT ts r).length ≤ most → SqT K F' b (ruV r) → Q (.ref b) H'
def sp_law_made : Sp := fun vs H Q _ => ∃ (F : Hp) (M : Ow) (t b : Addr) (r : Ru) (ts : List Tx) (most : Nat), Hs F M H ∧ vs = [.ref t, .ref b] ∧ Im M t (.lst (ts.map txV)) ∧ most ≤ 100000 ∧ (∀ i, (gt ts i).length ≤ most) ∧ RuK ts.length ts r ∧ (ruT ts r).length ≤ most ∧ SqT K F b (ruV r) ∧
  Q (.str (S (ruT ts r))) H
def sp_law_rules : Sp := fun vs H Q _ => ∃ (F : Hp) (M : Ow) (p : Addr) (o : HO) (m : HO → Ow) (most : Nat), Hs F M H ∧ vs = [.ref p, .int (most : Int)] ∧ Cell M p m ∧ Im M p o ∧ Pool K F o ∧ 64 ≤ most ∧ most ≤ 100000 ∧
  ∀ b rl tl vr (rs : List Ru) (ts : List Tx) o' F' H', Same F F' → Hs F' ((tl, HO.lst (ts.map txV)) :: (rl, HO.lst vr) :: m o') H' → Pool K F' o' → FzT K F' b [.ref rl, .ref tl] → DpAll K F' vr (rs.map ruD) → Tab rs ts → 1 ≤ rs.length → rs.length ≤ 20 → (∀ i, (gt ts i).length ≤ most) → Q (.ref b) H'
end
theorem txV_get {ts : List Tx} {i : Nat} (h : i < ts.length) : atI (ts.map txV) (i : Int) = some (.str (S (gt ts i))) := atI_nat (by rw [List.getElem?_map, at_gt h]; rfl)
section
variable {K : PySem.W.Frag}
theorem pure_law_written (vs : List V) (H : Hp) (Q : VK) (E : XK) (h : sp_law_written K vs H Q E) : t_law_written K (sp_law_take K) { nx := fun _ H' => Q .non H', rt := Q } (start N_law_written vs) H := by
  obtain ⟨F, M, p, o, m, hs, rfl, cc, hi, hP, k⟩ := h
  have hi2 := cell_im cc
  have hc2 := cell_cell cc
  unfold t_law_written
  rw [st_law_written, signs_eq]
  have main : ∀ (kind many : Int) (o1 : HO) H1, 0 ≤ many → many ≤ 64 → Pool K F o1 → Hs F (m o1) H1 → 0 ≤ kind →
      (tSeq (tAsg (tLst tNil) (gName 4)) (tSeq (tFor (iRng1 (tCons (tVar 3) tNil)) (gName 5) (tIfS (tTest (tOp rLtI (tVar 2) (tC (.int 3)))) (tDrop (tBM K "list" rAppend (tVar 4) (tCons (tOp (rIx K) (tVar 1) (tCall (sp_law_take K) [] E0 (tCons (tVar 0) (tCons (tC (.int 94)) tNil)))) tNil))) (tDrop (tBM K "list" rAppend (tVar 4) (tCons (tOp (rIx K) (tC (.str "ab")) (tCall (sp_law_take K) [] E0 (tCons (tVar 0) (tCons (tC (.int 2)) tNil)))) tNil))))) (tRet (tJoin K (tC (.str "")) (tVar 4)))))
        (En (fun _ H' => Q .non H') Q (fun _ _ => False) (fun _ _ => False)) [some (.ref p), some (.str (S signs)), some (.int kind), some (.int many), none, none] H1 := by
    intro kind many o1 H1 hm0 hm1 hP1 hs1 hk
    walk_at "py"
    rename_i r H2 hr hs2
    refine nLoopR (fun i σ' F' M' => ∃ (w : Tx) (o2 : HO) (z : Option V), F' = F ∧ M' = (r, HO.lst (w.map fun c => V.str (S [c]))) :: m o2 ∧ Pool K F o2 ∧ w.length = i ∧ (∀ c ∈ w, c ∈ signs) ∧ σ' = [some (.ref p), some (.str (S signs)), some (.int kind), some (.int many), some (.ref r), z])
      ⟨[], o1, none, rfl, rfl, hP1, rfl, by simp, rfl⟩ ?_ ?_
    · rintro i σ' F' M' H' hi7 hF hs' ⟨w, o2, z, rfl, rfl, hP2, hw, hws, rfl⟩
      walk_at "py"
      refine ifP (fun c => ?_) (fun c => ?_)
      · walk_at "py"
        refine take_go (by decide) (by decide) fun a o3 H3 a0 a1 hP3 hs3 => ?_
        obtain ⟨n, rfl⟩ : ∃ n : Nat, a = (n : Int) := ⟨a.toNat, by omega⟩
        have hn : n < signs.length := by show n < 94; omega
        refine nIxTx (c := signs[n]) (by decide) (List.getElem?_eq_getElem hn) ?_
        walk_at "py"
        refine nAppend (by rw [List.length_map]; omega) fun H4 hs4 => ?_
        refine .mk (by walk_at "sm") hs4 ⟨w ++ [signs[n]], o3, _, rfl, by rw [List.map_append]; rfl, hP3, by simp [hw], ?_, rfl⟩
        intro x hx
        rcases List.mem_append.mp hx with hx | hx
        · exact hws x hx
        · rw [List.mem_singleton.mp hx]; exact List.getElem_mem hn
      · walk_at "py"
        refine take_go (by decide) (by decide) fun a o3 H3 a0 a1 hP3 hs3 => ?_
        obtain ⟨n, rfl⟩ : ∃ n : Nat, a = (n : Int) := ⟨a.toNat, by omega⟩
        have hn : n < ([97, 98] : Tx).length := by show n < 2; omega
        rw [show ("ab" : Str) = S [97, 98] by decide +kernel]
        refine nIxTx (c := ([97, 98] : Tx)[n]) (by decide) (List.getElem?_eq_getElem hn) ?_
        walk_at "py"
        refine nAppend (by rw [List.length_map]; omega) fun H4 hs4 => ?_
        refine .mk (by walk_at "sm") hs4 ⟨w ++ [([97, 98] : Tx)[n]], o3, _, rfl, by rw [List.map_append]; rfl, hP3, by simp [hw], ?_, rfl⟩
        intro x hx
        rcases List.mem_append.mp hx with hx | hx
        · exact hws x hx
        · rw [List.mem_singleton.mp hx]
          have : ∀ y ∈ ([97, 98] : Tx), y ∈ signs := by decide
          exact this _ (List.getElem_mem hn)
    · rintro σ' F' M' H' hF hs' ⟨w, o2, z, rfl, rfl, hP2, hw, hws, rfl⟩
      rw [empty_eq]
      walk_at "py"
      have e : (w.map fun c => ([c] : Tx)).flatten = w := by
        clear hs' hw hws
        induction w with
        | nil => rfl
        | cons a w ih => rw [List.map_cons, List.flatten_cons, ih]; rfl
      refine nJoinO (ys := w.map fun c => [c]) (by rw [List.map_map]; rfl) (by rw [e]; omega) ?_
      rw [e]
      exact k w o2 H' (by omega) hws hP2 (hs'.drop 0)
  walk_at "py"
  refine take_go (by decide) (by decide) fun a o1 H1 a0 a1 hP1 hs1 => ?_
  walk_at "py"
  refine take_go (by decide) (by decide) fun b o2 H2 b0 b1 hP2 hs2 => ?_
  walk_at "py"
  refine ifP (fun c => ?_) (fun c => ?_)
  · walk_at "py"
    refine take_go (by decide) (by decide) fun d o3 H3 d0 d1 hP3 hs3 => ?_
    exact main a d o3 H3 d0 (by omega) hP3 hs3 a0
  · exact main a b o2 H2 b0 (by omega) hP2 hs2 a0
theorem pure_law_number (vs : List V) (H : Hp) (Q : VK) (E : XK) (h : sp_law_number K vs H Q E) : t_law_number K (sp_law_take K) { nx := fun _ H' => Q .non H', rt := Q } (start N_law_number vs) H := by
  obtain ⟨F, M, p, o, m, n, hs, rfl, cc, hi, hP, hn0, hn1, k⟩ := h
  have hi2 := cell_im cc
  have hc2 := cell_cell cc
  unfold t_law_number
  rw [st_law_number]
  walk_at "py"
  refine take_go (by decide) (by decide) fun a o1 H1 a0 a1 hP1 hs1 => ?_
  walk_at "py"
  refine ifP (fun c => ?_) (fun c => ?_)
  · walk_at "py"
    rw [show (n : Int) - 1 = ((n - 1 : Nat) : Int) by omega]
    exact k (n - 1) o1 H1 (by omega) hP1 hs1
  · walk_at "py"
    refine take_go (by omega) (by omega) fun b o2 H2 b0 b1 hP2 hs2 => ?_
    obtain ⟨z, rfl⟩ : ∃ z : Nat, b = (z : Int) := ⟨b.toNat, by omega⟩
    exact k z o2 H2 (by omega) hP2 hs2
theorem pure_law_made (vs : List V) (H : Hp) (Q : VK) (E : XK) (h : sp_law_made K vs H Q E) : t_law_made K { nx := fun _ H' => Q .non H', rt := Q } (start N_law_made vs) H := by
  obtain ⟨F, M, t, b, r, ts, most, hs, rfl, ht, hm1, hl, hk, hle, hb, k⟩ := h
  unfold t_law_made
  rw [st_law_made]
  cases r with
  | wri w =>
    have : FzT K F b [.str "letters", .str (S w)] := ⟨hb⟩
    walk_at "py"
    exact k
  | join i j =>
    have : FzT K F b [.str "join", .int (i : Int), .int (j : Int)] := ⟨hb⟩
    obtain ⟨h1, h2⟩ := hk
    have hle' : (gt ts i).length + (gt ts j).length ≤ most := by rw [← List.length_append]; exact hle
    walk_at "py"
    refine nIxO (txV_get h1) ?_
    walk_at "py"
    refine nIxO (txV_get h2) ?_
    exact nAddS (by omega) k
  | power i n =>
    have : FzT K F b [.str "power", .int (i : Int), .int (n : Int)] := ⟨hb⟩
    obtain ⟨h1, h2⟩ := hk
    have hle' : n * (gt ts i).length ≤ most := by rw [← rep_len]; exact hle
    walk_at "py"
    refine nIxO (txV_get h1) ?_
    walk_at "py"
    refine ifB (fun c => ?_) (fun c => ?_)
    · have : gt ts i = [] := List.isEmpty_iff.mp c
      walk_at "py"
      have e : ruT ts (.power i n) = [] := by
        show (List.replicate n (gt ts i)).flatten = []
        rw [this]
        exact List.flatten_eq_nil_iff.mpr fun l hl => (List.mem_replicate.mp hl).2
      rw [empty_eq]
      rw [e] at k; exact k
    · walk_at "py"
      refine nIxO (txV_get h1) ?_
      walk_at "py"
      refine nRepS (by omega) (by omega) (by rw [Int.toNat_natCast, Nat.mul_comm]; omega) ?_
      rw [Int.toNat_natCast]
      exact k
  | part i x y =>
    have : FzT K F b [.str "part", .int (i : Int), .int (x : Int), .int (y : Int)] := ⟨hb⟩
    obtain ⟨h1, h2, h3⟩ := hk
    have := hl i
    walk_at "py"
    refine nIxO (txV_get h1) ?_
    walk_at "py"
    exact nCutS (by omega) cutS_nat k
  | back i =>
    have : FzT K F b [.str "back", .int (i : Int)] := ⟨hb⟩
    have h1 : i < ts.length := hk
    have := hl i
    walk_at "py"
    refine nIxO (txV_get h1) ?_
    exact nRevS_mk (by omega) k
/-- the rule is told, as a tuple -/
theorem pure_law_next (vs : List V) (H : Hp) (Q : VK) (E : XK) (h : sp_law_next K vs H Q E) : t_law_next K (sp_law_take K) (sp_law_written K) (sp_law_number K) { nx := fun _ H' => Q .non H', rt := Q } (start N_law_next vs) H := by
  obtain ⟨F, M, p, t, o, m, ts, most, hs, rfl, cc, hi, hP, ht, ht0, htl, hm0, hm1, hl, k⟩ := h
  have hi2 := cell_im cc
  have hc2 := cell_cell cc
  unfold t_law_next
  rw [st_law_next]
  walk_at "py"
  refine take_go (by decide) (by decide) fun kd o1 H1 k0 k1 hP1 hs1 => ?_
  -- letters
  have wri : sp_law_written K ([V.ref p] ++ []) H1 (fun x H1 => tNil [some (V.ref p), some (V.ref t), some (V.int (most : Int)), some (V.int kd), none, none, none, none, none] H1 fun xs H2 => nTup (V.str "letters" :: x :: xs) H2 Q) E0 := by
    refine ⟨F, _, p, o1, m, hs1, rfl, hc2 _, hi2 _, hP1, fun w o2 H2 hw hws hP2 hs2 => ?_⟩
    walk_at "py"
    rename_i b F3 H3 hb hF3 hs3 hT3 hz3
    exact k (.wri w) b o2 F3 H3 hF3.h hs3 (hP2.mono hF3.h) ⟨hw, hws⟩ (by show w.length ≤ most; omega) (hT3 K).h
  walk_at "py"
  refine ifP (fun c => ?_) (fun c => ?_)
  · walk_at "py"
    exact wri
  walk_at "py"
  by_cases hne : ts = []
  · subst hne
    walk_at "py"
    rw [show (!!(List.map txV ([] : List Tx)).isEmpty) = true from rfl]
    walk_at "py"
    exact wri
  have hne2 : 0 < ts.length := List.length_pos_iff.mpr hne
  have hemp : (ts.map txV).isEmpty = false := by
    cases ts with
    | nil => exact absurd rfl hne
    | cons a b => rfl
  rw [hemp, show (!!false) = false from rfl]
  walk_at "py"
  rw [List.length_map]
  refine ⟨F, _, p, o1, m, ts.length, hs1, rfl, hc2 _, hi2 _, hP1, hne2, by omega, fun fi o2 H2 hfi hP2 hs2 => ?_⟩
  walk_at "py"
  have hlfi := hl fi
  refine nIxO (txV_get hfi) ?_
  walk_at "py"
  refine nLnT (by omega) ?_
  walk_at "py"
  refine cutI (I := fun σ' F' M' => F' = F ∧ ∃ (o' : HO) (f : Nat) (w6 : Option V), M' = m o' ∧ Pool K F o' ∧ f < ts.length ∧ σ' = [some (.ref p), some (.ref t), some (.int (most : Int)), some (.int kd), some (.int (f : Int)), some (.int ((gt ts f).length : Int)), w6, none, none]) ?_ ?_
  · walk_at "py"
    refine ifP (fun c3 => ?_) (fun c3 => ?_)
    · walk_at "py"
      rw [List.length_map]
      refine take_go (by omega) (by omega) fun se o3 H3 s0 s1 hP3 hs3 => ?_
      obtain ⟨se, rfl⟩ : ∃ z : Nat, se = (z : Int) := ⟨se.toNat, by omega⟩
      have hse : se < ts.length := by omega
      have hlse := hl se
      walk_at "py"
      refine take_go (by decide) (by decide) fun sw o4 H4 w0 w1 hP4 hs4 => ?_
      walk_at "py"
      -- the join, of i and j
      have jn : ∀ (i j : Nat), i < ts.length → j < ts.length → tIfS (tTest (tOp rLeI (tOp rAddI (tCB (rLn K) (tCons (tOp (rIx K) (tVar 1) (tVar 4)) tNil)) (tCB (rLn K) (tCons (tOp (rIx K) (tVar 1) (tVar 6)) tNil))) (tVar 2))) (tRet (tTup (tCons (tC (.str "join")) (tCons (tVar 4) (tCons (tVar 6) tNil))))) tNext
          (En (fun σ' H' => ∃ F' M', Same F F' ∧ Hs F' M' H' ∧ F' = F ∧ ∃ (o' : HO) (f : Nat) (w6 : Option V), M' = m o' ∧ Pool K F o' ∧ f < ts.length ∧ σ' = [some (.ref p), some (.ref t), some (.int (most : Int)), some (.int kd), some (.int (f : Int)), some (.int ((gt ts f).length : Int)), w6, none, none]) Q (fun _ _ => False) (fun _ _ => False))
          [some (.ref p), some (.ref t), some (.int (most : Int)), some (.int kd), some (.int (i : Int)), some (.int ((gt ts i).length : Int)), some (.int (j : Int)), none, none] H4 := by
        intro i j hi' hj'
        have := hl i
        have := hl j
        walk_at "py"
        refine nIxO (txV_get hi') ?_
        walk_at "py"
        refine nLnT (by omega) ?_
        walk_at "py"
        refine nIxO (txV_get hj') ?_
        walk_at "py"
        refine nLnT (by omega) ?_
        walk_at "py"
        refine ifP (fun c5 => ?_) (fun c5 => ?_)
        · walk_at "py"
          rename_i b F5 H5 hb hF5 hs5 hT5 hz5
          exact k (.join i j) b o4 F5 H5 hF5.h hs5 (hP4.mono hF5.h) ⟨hi', hj'⟩ (by show (gt ts i ++ gt ts j).length ≤ most; rw [List.length_append]; omega) (hT5 K).h
        · walk_at "py"
          exact ⟨F, _, Same.refl F, hs4, rfl, o4, i, _, rfl, hP4, hi', rfl⟩
      refine ifP (fun c4 => ?_) (fun c4 => ?_)
      · walk_at "py"
        refine nIxO (txV_get hse) ?_
        walk_at "py"
        refine nLnT (by omega) ?_
        exact jn se fi hse hfi
      · exact jn fi se hfi hse
    · walk_at "py"
      exact ⟨F, _, Same.refl F, hs2, rfl, o2, fi, _, rfl, hP2, hfi, rfl⟩
  rintro σ' F' M' H3 - hs3 ⟨rfl, o3, f, w6, rfl, hP3, hf, rfl⟩
  have hlf := hl f
  refine cutI (I := fun σ' F2 M' => ∃ (o' : HO) (w7 : Option V), M' = m o' ∧ Pool K F2 o' ∧ σ' = [some (.ref p), some (.ref t), some (.int (most : Int)), some (.int kd), some (.int (f : Int)), some (.int ((gt ts f).length : Int)), w6, w7, none]) ?_ ?_
  · walk_at "py"
    refine ifP (fun c => ?_) (fun c => ?_)
    · walk_at "py"
      refine take_go (by decide) (by decide) fun tm o4 H4 t0 t1 hP4 hs4 => ?_
      walk_at "py"
      have pw : ∀ (n : Nat) (z : Int) (F5 : Hp) (o5 : HO) (H5 : Hp), z = (n : Int) → n ≤ 1000000000000 → Same F' F5 → Hs F5 (m o5) H5 → Pool K F5 o5 → if decide (((gt ts f).length : Int) * z ≤ (most : Int)) = true then
          tRet (tTup (tCons (tC (.str "power")) (tCons (tVar 4) (tCons (tVar 7) tNil)))) (En (fun σ' H' => ∃ F2 M', Same F' F2 ∧ Hs F2 M' H' ∧ ∃ (o' : HO) (w7 : Option V), M' = m o' ∧ Pool K F2 o' ∧ σ' = [some (.ref p), some (.ref t), some (.int (most : Int)), some (.int kd), some (.int (f : Int)), some (.int ((gt ts f).length : Int)), w6, w7, none]) Q (fun _ _ => False) (fun _ _ => False)) [some (.ref p), some (.ref t), some (.int (most : Int)), some (.int kd), some (.int (f : Int)), some (.int ((gt ts f).length : Int)), w6, some (.int z), none] H5 else tNext (En (fun σ' H' => ∃ F2 M', Same F' F2 ∧ Hs F2 M' H' ∧ ∃ (o' : HO) (w7 : Option V), M' = m o' ∧ Pool K F2 o' ∧ σ' = [some (.ref p), some (.ref t), some (.int (most : Int)), some (.int kd), some (.int (f : Int)), some (.int ((gt ts f).length : Int)), w6, w7, none]) Q (fun _ _ => False) (fun _ _ => False)) [some (.ref p), some (.ref t), some (.int (most : Int)), some (.int kd), some (.int (f : Int)), some (.int ((gt ts f).length : Int)), w6, some (.int z), none] H5 := by
        intro n z F5 o5 H5 ez hn e5 hs5 hP5
        subst ez
        refine ifP (fun c5 => ?_) (fun c5 => ?_)
        · walk_at "py"
          rename_i b F6 H6 hb hF6 hs6 hT6 hz6
          refine k (.power f n) b o5 F6 H6 (e5.trans hF6.h) hs6 (hP5.mono hF6.h) ⟨hf, hn⟩ ?_ (hT6 K).h
          show ((List.replicate n (gt ts f)).flatten).length ≤ most
          rw [rep_len, Nat.mul_comm]
          have : (((gt ts f).length * n : Nat) : Int) ≤ (most : Int) := by rw [Int.natCast_mul]; exact c5
          exact Int.ofNat_le.mp this
        · walk_at "py"
          exact ⟨F5, _, e5, hs5, o5, _, rfl, hP5, rfl⟩
      refine ifP (fun c4 => ?_) (fun c4 => ?_)
      · walk_at "py"
        rename_i b F5 H5 hb hF5 hs5 hT5 hz5
        have hP5 : Pool K F5 o4 := hP4.mono hF5.h
        refine take_go (by decide) (by decide) fun ch o6 H6 h0 h1 hP6 hs6 => ?_
        have hch : ch = 0 ∨ ch = 1 ∨ ch = 2 ∨ ch = 3 := by omega
        rcases hch with rfl | rfl | rfl | rfl
        · walk_at "py"
          exact pw 0 0 F5 o6 H6 rfl (by omega) hF5.h hs6 hP6
        · walk_at "py"
          exact pw 1 1 F5 o6 H6 rfl (by omega) hF5.h hs6 hP6
        · walk_at "py"
          exact pw 7 7 F5 o6 H6 rfl (by omega) hF5.h hs6 hP6
        · walk_at "py"
          exact pw 1000000000000 1000000000000 F5 o6 H6 rfl (by omega) hF5.h hs6 hP6
      · obtain ⟨n, rfl⟩ : ∃ z : Nat, tm = (z : Int) := ⟨tm.toNat, by omega⟩
        walk_at "py"
        exact pw n n F' o4 H4 rfl (by omega) (Same.refl _) hs4 hP4
    · walk_at "py"
      exact ⟨F', _, Same.refl F', hs3, o3, _, rfl, hP3, rfl⟩
  rintro σ' F2 M' H4 hF2 hs4 ⟨o4, w7, rfl, hP4, rfl⟩
  walk_at "py"
  refine ifP (fun c => ?_) (fun c => ?_)
  · walk_at "py"
    refine take_go (by omega) (by omega) fun st o5 H5 s0 s1 hP5 hs5 => ?_
    obtain ⟨st, rfl⟩ : ∃ z : Nat, st = (z : Int) := ⟨st.toNat, by omega⟩
    walk_at "py"
    refine take_go (by omega) (by omega) fun sp o6 H6 p0 p1 hP6 hs6 => ?_
    obtain ⟨sp, rfl⟩ : ∃ z : Nat, sp = (z : Int) := ⟨sp.toNat, by omega⟩
    walk_at "py"
    rename_i b F7 H7 hb hF7 hs7 hT7 hz7
    rw [show (st : Int) + (sp : Int) = ((st + sp : Nat) : Int) by omega] at hT7
    refine k (.part f st (st + sp)) b o6 F7 H7 (hF2.h.trans hF7.h) hs7 (hP6.mono hF7.h) ⟨hf, by omega, by omega⟩ ?_ (hT7 K).h
    show (((gt ts f).take (st + sp)).drop st).length ≤ most
    rw [cut_len (by omega)]; omega
  · walk_at "py"
    rename_i b F7 H7 hb hF7 hs7 hT7 hz7
    exact k (.back f) b o4 F7 H7 (hF2.h.trans hF7.h) hs7 (hP4.mono hF7.h) hf (by show (gt ts f).reverse.length ≤ most; rw [List.length_reverse]; omega) (hT7 K).h
theorem gt_snoc_le {ts : List Tx} {x : Tx} {n : Nat} (h : ∀ i, (gt ts i).length ≤ n) (hx : x.length ≤ n) (i : Nat) : (gt (ts ++ [x]) i).length ≤ n := by
  by_cases hi : i < ts.length
  · rw [gt_app hi]; exact h i
  · by_cases he : i = ts.length
    · rw [gt_at (t := x) (by rw [he, List.getElem?_append_right (by omega), Nat.sub_self]; rfl)]; exact hx
    · unfold gt
      rw [List.getD_eq_getElem?_getD, List.getElem?_eq_none (by rw [List.length_append]; simp; omega)]
      simp
theorem pure_law_rules (vs : List V) (H : Hp) (Q : VK) (E : XK) (h : sp_law_rules K vs H Q E) : t_law_rules K (sp_law_take K) (sp_law_next K) (sp_law_made K) { nx := fun _ H' => Q .non H', rt := Q } (start N_law_rules vs) H := by
  obtain ⟨F, M, p, o, m, most, hs, rfl, cc, hi, hP, hm0, hm1, k⟩ := h
  have hi2 := cell_im cc
  have hc2 := cell_cell cc
  unfold t_law_rules
  rw [st_law_rules]
  walk_at "py"
  rename_i rl H1 hrl hs1 tl H2 htl hs2
  refine take_go (by decide) (by decide) fun n o3 H3 n0 n1 hP3 hs3 => ?_
  walk_at "py"
  refine nLoopR (fun i σ' F' M' => ∃ (o' : HO) (vr : List V) (rs : List Ru) (ts : List Tx) (w4 w5 : Option V), M' = (tl, HO.lst (ts.map txV)) :: (rl, HO.lst vr) :: m o' ∧ Pool K F' o' ∧ σ' = [some (.ref p), some (.int (most : Int)), some (.ref rl), some (.ref tl), w4, w5] ∧
    DpAll K F' vr (rs.map ruD) ∧ Tab rs ts ∧ rs.length = i ∧ (∀ i, (gt ts i).length ≤ most)) ⟨o3, [], [], [], none, none, rfl, hP3, rfl, .nil, Tab.nil, rfl, fun i => by simp [gt]⟩ ?_ ?_
  · rintro i σ' F' M' H' hi7 hF hs' ⟨o', vr, rs, ts, w4, w5, rfl, hP', rfl, hd, hT, hri, hl⟩
    have htl' := hT.ln
    have hvl := dpa_len hd
    rw [List.length_map] at hvl
    walk_at "py"
    refine ⟨F', _, p, tl, o', _, ts, most, hs', rfl, inferInstance, inferInstance, hP', fun _ => im0, im0, by omega, hm0, hm1, hl, fun r b o4 F4 H4 e4 hs4 hP4 hk4 hle4 hb4 => ?_⟩
    have hF4 : Sm F' F4 := ⟨e4⟩
    walk_at "py"
    refine nAppend (by omega) fun H5 hs5 => ?_
    walk_at "py"
    refine ⟨F4, _, tl, b, r, ts, most, hs5, rfl, im0, hm1, hl, hk4, hle4, hb4, ?_⟩
    walk_at "py"
    refine nAppend (by rw [List.length_map]; omega) fun H6 hs6 => ?_
    refine .mk (hF.h.trans e4) hs6 ⟨o4, _, rs ++ [r], ts ++ [ruT ts r], _, _, by rw [List.map_append]; rfl, hP4, rfl, ?_, hT.snoc (by rw [← htl']; exact hk4) (by omega), by simp [hri], gt_snoc_le hl hle4⟩
    rw [List.map_append]
    exact dpa_app (dpa_mono e4 hd) (.cons (dp_ruI hb4) .nil)
  · rintro σ' F' M' H' hF hs' ⟨o', vr, rs, ts, w4, w5, rfl, hP', rfl, hd, hT, hri, hl⟩
    walk_at "py"
    rename_i b F5 H5 hb hF5 hs5 hT5 hz5
    exact k b rl tl vr rs ts o' F5 H5 (hF.h.trans hF5.h) hs5 (hP'.mono hF5.h) (hT5 K) (dpa_mono hF5.h hd) hT (by omega) (by omega) hl
end
end Sh


set_option Elab.async false
set_option linter.all false
set_option maxRecDepth 100000
set_option maxHeartbeats 4000000
/-! # The same text by other rules -/
namespace Sh
open PySem PySem.Spec PyProof.Rows L2
/-- x, t times -/
def pw (x : Tx) (t : Nat) : Tx := (List.replicate t x).flatten
theorem pw_len {x : Tx} {t : Nat} : (pw x t).length = t * x.length := rep_len
theorem pw_add {x : Tx} {a b : Nat} : pw x (a + b) = pw x a ++ pw x b := by
  unfold pw
  rw [← List.replicate_append_replicate, List.flatten_append]
theorem pw_mul {x : Tx} {a : Nat} : ∀ {b : Nat}, pw (pw x a) b = pw x (a * b)
  | 0 => by rw [Nat.mul_zero]; rfl
  | b + 1 => by
    rw [show pw (pw x a) (b + 1) = pw (pw x a) b ++ pw (pw x a) 1 from pw_add, pw_mul, Nat.mul_succ, pw_add]
    congr 1
    show (List.replicate 1 (pw x a)).flatten = _
    simp
theorem pw_one {x : Tx} : pw x 1 = x := by simp [pw]
theorem pw_shift {u v : Tx} : ∀ {t : Nat}, u ++ pw (v ++ u) t ++ v = pw (u ++ v) (t + 1)
  | 0 => by rw [Nat.zero_add, pw_one]; simp [pw]
  | t + 1 => by
    rw [show pw (v ++ u) (t + 1) = pw (v ++ u) (1 + t) by rw [Nat.add_comm], pw_add, pw_one]
    rw [show t + 1 + 1 = 1 + (t + 1) by omega, pw_add, pw_one, ← pw_shift (t := t)]
    simp [List.append_assoc]
theorem cut_two {x : Tx} {c : Nat} (h : c ≤ x.length) : cut x 0 c ++ cut x c x.length = x := by
  rw [cut_app (by omega) h, cut_all]
/-- rows of rules behind others, each one told by those before it -/
def Ext (rs : List Ru) (ts : List Tx) : List Ru → List Tx → Prop
  | [], us => us = []
  | r :: as, [] => False
  | r :: as, u :: us => RuK rs.length ts r ∧ ruT ts r = u ∧ u.length ≤ 1000000000000 ∧ Ext (rs ++ [r]) (ts ++ [u]) as us
theorem Ext.tab : ∀ {as : List Ru} {rs : List Ru} {ts us : List Tx}, Tab rs ts → Ext rs ts as us → Tab (rs ++ as) (ts ++ us)
  | [], rs, ts, us, h, e => by
    have : us = [] := e
    subst this
    rw [List.append_nil, List.append_nil]; exact h
  | r :: as, rs, ts, [], h, e => e.elim
  | r :: as, rs, ts, u :: us, h, ⟨h1, h2, h3, h4⟩ => by
    subst h2
    have := Ext.tab (h.snoc h1 h3) h4
    rw [List.append_assoc, List.append_assoc] at this
    exact this
theorem gt_end {ts us : List Tx} {n i : Nat} (h : ts.length = n) : gt (ts ++ us) (n + i) = gt us i := by subst h; exact gt_app2
def grownR (n c z T f : Nat) : List Ru := [.part (n - 1) 0 c, .part (n - 1) c z, .back (n + 1), .back n, .join (n + 2) (n + 3), .back (n + 4), .power (n + 5) f, .power (n + 6) (T / f), .power (n + 5) (T - T / f * f), .join (n + 7) (n + 8)]
def grownT (x : Tx) (c T f : Nat) : List Tx := [cut x 0 c, cut x c x.length, (cut x c x.length).reverse, (cut x 0 c).reverse, x.reverse, x, pw x f, pw x (f * (T / f)), pw x (T - T / f * f), pw x T]
def shiftR (n c z T : Nat) : List Ru := [.part (n - 1) 0 c, .part (n - 1) c z, .join (n + 1) n, .power (n + 2) (T - 1), .join n (n + 3), .join (n + 4) (n + 1)]
def shiftT (x : Tx) (c T : Nat) : List Tx := [cut x 0 c, cut x c x.length, cut x c x.length ++ cut x 0 c, pw (cut x c x.length ++ cut x 0 c) (T - 1), cut x 0 c ++ pw (cut x c x.length ++ cut x 0 c) (T - 1), pw x T]
theorem mul_le_of {a b t n : Nat} (h : a ≤ b) (hb : b * t ≤ n) : a * t ≤ n := Nat.le_trans (Nat.mul_le_mul_right t h) hb
section
variable {rs : List Ru} {ts : List Tx} {n c T f : Nat} {x : Tx}
theorem grown_ext (hT : Tab rs ts) (hn : rs.length = n) (h1 : 1 ≤ n) (hx : gt ts (n - 1) = x) (hc : c ≤ x.length) (hf : 1 ≤ f) (hfT : f ≤ T) (hTx : T * x.length ≤ 1000000000000) (hTl : T ≤ 1000000000000) : Ext rs ts (grownR n c x.length T f) (grownT x c T f) := by
  have hl : ts.length = n := by rw [hT.ln, hn]
  have hxl : x.length ≤ 1000000000000 := by rw [← hx]; exact hT.le _
  have g0 : ∀ us, gt (ts ++ us) (n - 1) = x := fun us => by rw [gt_app (by omega), hx]
  have ge : ∀ us i, gt (ts ++ us) (n + i) = gt us i := fun us i => gt_end hl
  have ge0 : ∀ us, gt (ts ++ us) n = gt us 0 := fun us => gt_end (i := 0) hl
  have c1 : (cut x 0 c).length = c := by rw [cut_len' hc]; omega
  have c2 : (cut x c x.length).length = x.length - c := cut_len' (Nat.le_refl _)
  have dm : T / f * f ≤ T := Nat.div_mul_le_self T f
  have e1 : f * (T / f) + (T - T / f * f) = T := by rw [Nat.mul_comm]; omega
  have hTf : T / f ≤ T := Nat.div_le_self T f
  have k1 : f * x.length ≤ 1000000000000 := mul_le_of hfT hTx
  have k2 : f * (T / f) * x.length ≤ 1000000000000 := mul_le_of (by omega) hTx
  have k3 : (T - T / f * f) * x.length ≤ 1000000000000 := mul_le_of (by omega) hTx
  refine ⟨⟨by omega, Nat.zero_le _, ?_⟩, ?_, by omega, ⟨?_, hc, ?_⟩, ?_, by omega, ?_, ?_, by rw [List.length_reverse]; omega, ?_, ?_, by rw [List.length_reverse]; omega, ⟨?_, ?_⟩, ?_, by rw [List.length_reverse]; omega, ?_, ?_, hxl, ⟨?_, ?_⟩, ?_, by rw [pw_len]; exact k1, ⟨?_, ?_⟩, ?_, by rw [pw_len]; exact k2, ⟨?_, ?_⟩, ?_, by rw [pw_len]; exact k3, ⟨?_, ?_⟩, ?_, by rw [pw_len]; exact hTx, rfl⟩
  all_goals try simp only [List.append_assoc, List.cons_append, List.nil_append, ruT, g0, ge, ge0, hx, List.length_append, List.length_cons, List.length_nil, hn]
  all_goals first | omega | skip
  all_goals try simp only [gt, List.getD_cons_zero, List.getD_cons_succ]
  all_goals first | rfl | omega | skip
  · show n + 1 < _; omega
  · show n < _; omega
  · rw [← List.reverse_append, cut_two hc]
  · show n + 4 < _; omega
  · exact List.reverse_reverse x
  · exact pw_mul
  · rw [← pw_add, e1]
theorem shift_ext (hT : Tab rs ts) (hn : rs.length = n) (h1 : 1 ≤ n) (hx : gt ts (n - 1) = x) (hc : c ≤ x.length) (h1T : 1 ≤ T) (hTx : T * x.length ≤ 1000000000000) (hTl : T ≤ 1000000000000) : Ext rs ts (shiftR n c x.length T) (shiftT x c T) := by
  have hl : ts.length = n := by rw [hT.ln, hn]
  have hxl : x.length ≤ 1000000000000 := by rw [← hx]; exact hT.le _
  have g0 : ∀ us, gt (ts ++ us) (n - 1) = x := fun us => by rw [gt_app (by omega), hx]
  have ge : ∀ us i, gt (ts ++ us) (n + i) = gt us i := fun us i => gt_end hl
  have ge0 : ∀ us, gt (ts ++ us) n = gt us 0 := fun us => gt_end (i := 0) hl
  have c1 : (cut x 0 c).length = c := by rw [cut_len' hc]; omega
  have c2 : (cut x c x.length).length = x.length - c := cut_len' (Nat.le_refl _)
  have cy : (cut x c x.length ++ cut x 0 c).length = x.length := by rw [List.length_append]; omega
  have e1 : T - 1 + 1 = T := by omega
  have e2 : T * x.length = (T - 1) * x.length + x.length := by rw [← Nat.succ_mul]; congr 1; omega
  have sh : cut x 0 c ++ pw (cut x c x.length ++ cut x 0 c) (T - 1) ++ cut x c x.length = pw x T := by rw [pw_shift, cut_two hc, e1]
  refine ⟨⟨by omega, Nat.zero_le _, ?_⟩, ?_, by omega, ⟨?_, hc, ?_⟩, ?_, by omega, ⟨?_, ?_⟩, ?_, by omega, ⟨?_, ?_⟩, ?_, by rw [pw_len, cy]; omega, ⟨?_, ?_⟩, ?_, by rw [List.length_append, pw_len, cy]; omega, ⟨?_, ?_⟩, ?_, by rw [pw_len]; exact hTx, rfl⟩
  all_goals try simp only [List.append_assoc, List.cons_append, List.nil_append, ruT, g0, ge, ge0, hx, List.length_append, List.length_cons, List.length_nil, hn]
  all_goals first | omega | skip
  all_goals try simp only [gt, List.getD_cons_zero, List.getD_cons_succ]
  all_goals first | rfl | omega | skip
end
end Sh


set_option Elab.async false
set_option linter.all false
set_option maxRecDepth 100000
set_option maxHeartbeats 4000000
namespace Sh
open PySem PySem.Spec PyProof.Rows L2
/-! the steps, by themselves as far as nothing is to be decided -/
set_option synthInstance.maxSize 4096
set_option synthInstance.maxHeartbeats 400000
local macro_rules | `(tactic| walk_at "sm") => `(tactic| first | assumption | exact Same.refl _ | exact Sm.h | (refine Same.trans ?_ Sm.h; walk_at "sm"))
local macro_rules | `(tactic| walk_at "py1") => `(tactic| first
  | refine go ?_
  | (with_reducible refine py_mulL (by omega) (by omega) ?_) | (with_reducible refine py_mulR (by omega) (by omega) ?_) | (with_reducible refine py_divI (by omega) (by omega) ?_) | (with_reducible refine py_modI (by omega) ?_)
  | (with_reducible refine nSet_mk ?_; intro _ _) | (with_reducible refine nTupF (by simp) ?_; intro _ _ _ _ _ _ _ _) | (with_reducible refine nLstO (by simp) ?_; intro _ _ _ _)
  | (with_reducible refine nRng1_mk (by omega) (by omega) ?_) | (with_reducible refine nRng2_mk (by omega) (by omega) (by omega) (by omega) ?_))
local macro_rules | `(tactic| walk_at "py") => `(tactic| repeat (walk_at "py1"))
def N_law_grown : List Str := ["_law_rules_here", "_law_texts", "_law_cut", "_law_times", "_law_first", "_law_last", "_law_size", "_law_rest"]
theorem st_law_grown {v0 v1 v2 v3 v4 : V} : start N_law_grown [v0, v1, v2, v3, v4] = [some v0, some v1, some v2, some v3, some v4, none, none, none] := rfl
def t_law_grown (K : PySem.W.Frag) : TS := (tSeq (tAsg (tOp rSubI (tCB (rLn K) (tCons (tVar 0) tNil)) (tC (.int 1))) (gName 5)) (tSeq (tAsg (tCB (rLn K) (tCons (tOp (rIx K) (tVar 1) (tUn rNegI (tC (.int 1)))) tNil)) (gName 6)) (tSeq (tAsg (tOp rSubI (tVar 3) (tOp rMulI (tOp rDivI (tVar 3) (tVar 4)) (tVar 4))) (gName 7)) (tSeq (tAsg (tOp rCat (tVar 0) (tLst (tCons (tTup (tCons (tC (.str "part")) (tCons (tVar 5) (tCons (tC (.int 0)) (tCons (tVar 2) tNil))))) (tCons (tTup (tCons (tC (.str "part")) (tCons (tVar 5) (tCons (tVar 2) (tCons (tVar 6) tNil))))) (tCons (tTup (tCons (tC (.str "back")) (tCons (tOp rAddI (tVar 5) (tC (.int 2))) tNil))) (tCons (tTup (tCons (tC (.str "back")) (tCons (tOp rAddI (tVar 5) (tC (.int 1))) tNil))) tNil)))))) (gName 0)) (tSeq (tAsg (tOp rCat (tVar 0) (tLst (tCons (tTup (tCons (tC (.str "join")) (tCons (tOp rAddI (tVar 5) (tC (.int 3))) (tCons (tOp rAddI (tVar 5) (tC (.int 4))) tNil)))) (tCons (tTup (tCons (tC (.str "back")) (tCons (tOp rAddI (tVar 5) (tC (.int 5))) tNil))) (tCons (tTup (tCons (tC (.str "power")) (tCons (tOp rAddI (tVar 5) (tC (.int 6))) (tCons (tVar 4) tNil)))) tNil))))) (gName 0)) (tSeq (tAsg (tOp rCat (tVar 0) (tLst (tCons (tTup (tCons (tC (.str "power")) (tCons (tOp rAddI (tVar 5) (tC (.int 7))) (tCons (tOp rDivI (tVar 3) (tVar 4)) tNil)))) (tCons (tTup (tCons (tC (.str "power")) (tCons (tOp rAddI (tVar 5) (tC (.int 6))) (tCons (tVar 7) tNil)))) (tCons (tTup (tCons (tC (.str "join")) (tCons (tOp rAddI (tVar 5) (tC (.int 8))) (tCons (tOp rAddI (tVar 5) (tC (.int 9))) tNil)))) tNil))))) (gName 0)) (tRet (tVar 0))))))))
def N_law_shifted : List Str := ["_law_rules_here", "_law_size", "_law_cut", "_law_times", "_law_last"]
theorem st_law_shifted {v0 v1 v2 v3 : V} : start N_law_shifted [v0, v1, v2, v3] = [some v0, some v1, some v2, some v3, none] := rfl
def t_law_shifted (K : PySem.W.Frag) : TS := (tSeq (tAsg (tOp rSubI (tCB (rLn K) (tCons (tVar 0) tNil)) (tC (.int 1))) (gName 4)) (tSeq (tAsg (tOp rCat (tVar 0) (tLst (tCons (tTup (tCons (tC (.str "part")) (tCons (tVar 4) (tCons (tC (.int 0)) (tCons (tVar 2) tNil))))) (tCons (tTup (tCons (tC (.str "part")) (tCons (tVar 4) (tCons (tVar 2) (tCons (tVar 1) tNil))))) (tCons (tTup (tCons (tC (.str "join")) (tCons (tOp rAddI (tVar 4) (tC (.int 2))) (tCons (tOp rAddI (tVar 4) (tC (.int 1))) tNil)))) tNil))))) (gName 0)) (tSeq (tAsg (tOp rCat (tVar 0) (tLst (tCons (tTup (tCons (tC (.str "power")) (tCons (tOp rAddI (tVar 4) (tC (.int 3))) (tCons (tOp rSubI (tVar 3) (tC (.int 1))) tNil)))) (tCons (tTup (tCons (tC (.str "join")) (tCons (tOp rAddI (tVar 4) (tC (.int 1))) (tCons (tOp rAddI (tVar 4) (tC (.int 4))) tNil)))) (tCons (tTup (tCons (tC (.str "join")) (tCons (tOp rAddI (tVar 4) (tC (.int 5))) (tCons (tOp rAddI (tVar 4) (tC (.int 2))) tNil)))) tNil))))) (gName 0)) (tRet (tVar 0)))))
def N_law : List Str := ["_law_script", "_law_pool_here", "_law_rules_here", "_law_texts", "_law_size", "_law_cut", "_law_times", "_law_first", "_law_one", "_law_others", "_law_other", "_law_k", "_law_place", "_law_far"]
theorem st_law {v0 : V} : start N_law [v0] = [some v0, none, none, none, none, none, none, none, none, none, none, none, none, none] := rfl
def t_law (K : PySem.W.Frag) (sp_law_pool : Sp) (sp_law_rules : Sp) (sp_law_take : Sp) (sp_Text_init : Sp) (sp_law_shifted : Sp) (sp_law_grown : Sp) (sp_law_same : Sp) (sp_Text_letter : Sp) (sp_Text_letters : Sp) : TS := (tSeq (tAsg (tCall sp_law_pool [] E0 (tCons (tVar 0) tNil)) (gName 1)) (tSeq (tAsg (tCall sp_law_rules [] E0 (tCons (tVar 1) (tCons (tC (.int 400)) tNil))) (gTup K 2 (gCons (gName 2) (gCons (gName 3) gNil)))) (tSeq (tAsg (tCB (rLn K) (tCons (tOp (rIx K) (tVar 3) (tUn rNegI (tC (.int 1)))) tNil)) (gName 4)) (tSeq (tAsg (tCall sp_law_take [] E0 (tCons (tVar 1) (tCons (tOp rAddI (tVar 4) (tC (.int 1))) tNil))) (gName 5)) (tSeq (tAsg (tOp rAddI (tC (.int 1)) (tCall sp_law_take [] E0 (tCons (tVar 1) (tCons (tOp rDivI (tOp rPowI (tC (.int 10)) (tC (.int 12))) (tCB rMax2 (tCons (tC (.int 1)) (tCons (tVar 4) tNil)))) tNil)))) (gName 6)) (Evl.tCut (tIfS (tTest (tOp rEq (tCall sp_law_take [] E0 (tCons (tVar 1) (tCons (tC (.int 3)) tNil))) (tC (.int 1)))) (tAsg (tOp rAddI (tC (.int 1)) (tCall sp_law_take [] E0 (tCons (tVar 1) (tCons (tC (.int 9)) tNil)))) (gName 6)) tNext) (tSeq (tAsg (tOp rAddI (tC (.int 1)) (tCall sp_law_take [] E0 (tCons (tVar 1) (tCons (tCB rMin2 (tCons (tVar 6) (tCons (tOp rPowI (tC (.int 10)) (tC (.int 5))) tNil))) tNil)))) (gName 7)) (tSeq (tAsg (tMake (He.ga K "Text") sp_Text_init [] E0 (tCons (tOp rCat (tVar 2) (tLst (tCons (tTup (tCons (tC (.str "power")) (tCons (tOp rSubI (tCB (rLn K) (tCons (tVar 2) tNil)) (tC (.int 1))) (tCons (tVar 6) tNil)))) tNil))) tNil)) (gName 8)) (tSeq (tAsg (tLst (tCons (tMake (He.ga K "Text") sp_Text_init [] E0 (tCons (tCall sp_law_grown [] E0 (tCons (tVar 2) (tCons (tVar 3) (tCons (tVar 5) (tCons (tVar 6) (tCons (tVar 7) tNil)))))) tNil)) (tCons (tMake (He.ga K "Text") sp_Text_init [] E0 (tCons (tCall sp_law_shifted [] E0 (tCons (tVar 2) (tCons (tVar 4) (tCons (tVar 5) (tCons (tVar 6) tNil))))) tNil)) tNil))) (gName 9)) (tSeq (tFor (iList K (tVar 9)) (gName 10) (tSeq (tIfS (tOr (tNot (tTru K (tCall sp_law_same [] E0 (tCons (tFld K (tVar 10) "length") (tCons (tOp rMulI (tVar 4) (tVar 6)) tNil))))) (tNot (tTru K (tCall sp_law_same [] E0 (tCons (tFld K (tVar 8) "length") (tCons (tOp rMulI (tVar 4) (tVar 6)) tNil)))))) (tRet (tC (.bl false))) tNext) (tFor (iRng1 (tCons (tC (.int 5)) tNil)) (gName 11) (tIfS (tTest (tOp rGtI (tVar 4) (tC (.int 0)))) (tSeq (tAsg (tOp (rIx K) (tTup (tCons (tCall sp_law_take [] E0 (tCons (tVar 1) (tCons (tOp rMulI (tVar 4) (tVar 6)) tNil))) (tCons (tOp rSubI (tOp rSubI (tOp rMulI (tVar 4) (tVar 6)) (tC (.int 1))) (tCall sp_law_take [] E0 (tCons (tVar 1) (tCons (tCB rMin2 (tCons (tOp rMulI (tVar 4) (tVar 6)) (tCons (tC (.int 500)) tNil))) tNil)))) tNil))) (tCall sp_law_take [] E0 (tCons (tVar 1) (tCons (tC (.int 2)) tNil)))) (gName 12)) (tSeq (tAsg (tCB rMin2 (tCons (tOp rMulI (tVar 4) (tVar 6)) (tCons (tOp rAddI (tVar 12) (tOp (rIx K) (tTup (tCons (tC (.int 1)) (tCons (tC (.int 20)) (tCons (tC (.int 300)) tNil)))) (tCall sp_law_take [] E0 (tCons (tVar 1) (tCons (tC (.int 3)) tNil))))) tNil))) (gName 13)) (tSeq (tIfS (tNot (tTru K (tCall sp_law_same [] E0 (tCons (tMethE (He.ga K "Text") "letter" sp_Text_letter (fun _ _ _ _ => False) (tVar 10) (tCons (tVar 12) tNil)) (tCons (tMethE (He.ga K "Text") "letter" sp_Text_letter (fun _ _ _ _ => False) (tVar 8) (tCons (tVar 12) tNil)) tNil))))) (tRet (tC (.bl false))) tNext) (tIfS (tNot (tTru K (tCall sp_law_same [] E0 (tCons (tMethE (He.ga K "Text") "letters" sp_Text_letters (fun _ _ _ _ => False) (tVar 10) (tCons (tVar 12) (tCons (tVar 13) tNil))) (tCons (tMethE (He.ga K "Text") "letters" sp_Text_letters (fun _ _ _ _ => False) (tVar 8) (tCons (tVar 12) (tCons (tVar 13) tNil))) tNil))))) (tRet (tC (.bl false))) tNext)))) tNext)))) (tRet (tC (.bl true)))))))))))))
open SX (S)
section
variable {K : PySem.W.Frag} {H F : Hp} {M : Ow} {Q : VK} {p b : Addr} {xs zs : List V}
theorem nCat [hs : Hs F M H] [hm : Im M p (.lst xs)] [hb : Im M b (.lst zs)] (hl : xs.length + zs.length ≤ 16777216) (h : ∀ q H', F q = none → Hs F ((q, .lst (xs ++ zs)) :: M) H' → Q (.ref q) H') : rCat (.ref p) (.ref b) H Q :=
  ⟨p, b, xs, zs, rfl, rfl, hs.im hm, hs.im hb, sz hl, fun q hq => h q _ (hs.free hq) (hs.new hq)⟩
end
section
variable (K : PySem.W.Frag)
def sp_law_grown : Sp := fun vs H Q _ => ∃ (F : Hp) (M : Ow) (rl tl : Addr) (vr : List V) (rs : List Ru) (ts : List Tx) (c T f : Nat), Hs F M H ∧ vs = [.ref rl, .ref tl, .int (c : Int), .int (T : Int), .int (f : Int)] ∧ Im M rl (.lst vr) ∧ Im M tl (.lst (ts.map txV)) ∧ DpAll K F vr (rs.map ruD) ∧ Tab rs ts ∧
  1 ≤ rs.length ∧ rs.length ≤ 100 ∧ (whole ts).length ≤ 100000 ∧ 1 ≤ f ∧ f ≤ T ∧ T ≤ 1000000000000 ∧
  ∀ q vr' F' H', Same F F' → Hs F' ((q, HO.lst vr') :: M) H' → DpAll K F' vr' ((rs ++ grownR rs.length c (whole ts).length T f).map ruD) → Q (.ref q) H'
def sp_law_shifted : Sp := fun vs H Q _ => ∃ (F : Hp) (M : Ow) (rl : Addr) (vr : List V) (rs : List Ru) (z c T : Nat), Hs F M H ∧ vs = [.ref rl, .int (z : Int), .int (c : Int), .int (T : Int)] ∧ Im M rl (.lst vr) ∧ DpAll K F vr (rs.map ruD) ∧
  1 ≤ rs.length ∧ rs.length ≤ 100 ∧ 1 ≤ T ∧ T ≤ 1000000000000 ∧
  ∀ q vr' F' H', Same F F' → Hs F' ((q, HO.lst vr') :: M) H' → DpAll K F' vr' ((rs ++ shiftR rs.length c z T).map ruD) → Q (.ref q) H'
end
section
variable {K : PySem.W.Frag}
theorem dru {F : Hp} {a : Addr} {r : Ru} {xs : List V} (h : FzT K F a xs) (e : xs = ruV r) : Dp K F (.ref a) (ruD r) := dp_ruI (e ▸ h.h)
theorem pure_law_shifted (vs : List V) (H : Hp) (Q : VK) (E : XK) (h : sp_law_shifted K vs H Q E) : t_law_shifted K { nx := fun _ H' => Q .non H', rt := Q } (start N_law_shifted vs) H := by
  obtain ⟨F, M, rl, vr, rs, z, c, T, hs, rfl, hr, hd, hn, hn2, h1T, hTl, k⟩ := h
  have hvl := dpa_len hd
  rw [List.length_map] at hvl
  unfold t_law_shifted
  rw [st_law_shifted]
  walk_at "py"
  rename_i t1 F1 H1 ht1 hF1 hs1 hT1 hz1 t2 F2 H2 ht2 hF2 hs2 hT2 hz2 t3 F3 H3 ht3 hF3 hs3 hT3 hz3 l1 H4 hl1 hs4
  refine nCat (by simp; omega) fun q1 H5 hq1 hs5 => ?_
  walk_at "py"
  rename_i t4 F4 H6 ht4 hF4 hs6 hT4 hz4 t5 F5 H7 ht5 hF5 hs7 hT5 hz5 t6 F6 H8 ht6 hF6 hs8 hT6 hz6 l2 H9 hl2 hs9
  refine nCat (by simp; omega) fun q2 H10 hq2 hs10 => ?_
  walk_at "py"
  have hs11 := ((hs10.drop 3).drop 2).drop 1
  simp only [List.eraseIdx_cons_zero, List.eraseIdx_cons_succ] at hs11
  have e36 : Same F3 F6 := (hF4.h.trans hF5.h).trans hF6.h
  refine k q2 _ F6 H10 ((hF1.h.trans hF2.h).trans (hF3.h.trans e36)) hs11 ?_
  rw [List.map_append]
  simp only [List.append_assoc]
  refine dpa_app (dpa_mono ((hF1.h.trans hF2.h).trans (hF3.h.trans e36)) hd) ?_
  have m1 : Same F1 F6 := (hF2.h.trans hF3.h).trans e36
  have m2 : Same F2 F6 := hF3.h.trans e36
  have m4 : Same F4 F6 := hF5.h.trans hF6.h
  refine .cons (dp_mono m1 (dru (hT1 K) ?_)) (.cons (dp_mono m2 (dru (hT2 K) ?_)) (.cons (dp_mono e36 (dru (hT3 K) ?_)) (.cons (dp_mono m4 (dru (hT4 K) ?_)) (.cons (dp_mono hF6.h (dru (hT5 K) ?_)) (.cons (dru (hT6 K) ?_) .nil)))))
  all_goals simp only [ruV, List.cons.injEq, V.int.injEq, and_true, true_and]
  all_goals first | omega | (constructor <;> omega) | (refine ⟨?_, ?_⟩ <;> omega) | skip
theorem whole_at {ts : List Tx} (h : 1 ≤ ts.length) : atI (ts.map txV) (-1) = some (.str (S (whole ts))) := by
  have hl : ts.length - 1 < ts.length := by omega
  have e := take_one (at_gt hl)
  rw [show ts.length - 1 + 1 = ts.length by omega, List.take_of_length_le (Nat.le_refl _)] at e
  have e3 : ts.map txV = (ts.take (ts.length - 1)).map txV ++ [.str (S (whole ts))] := by
    conv => lhs; rw [e]
    rw [List.map_append]; rfl
  rw [e3]
  exact atI_last _ _
theorem pure_law_grown (vs : List V) (H : Hp) (Q : VK) (E : XK) (h : sp_law_grown K vs H Q E) : t_law_grown K { nx := fun _ H' => Q .non H', rt := Q } (start N_law_grown vs) H := by
  obtain ⟨F, M, rl, tl, vr, rs, ts, c, T, f, hs, rfl, hr, ht, hd, hT, hn, hn2, hw, h1f, hfT, hTl, k⟩ := h
  have hvl := dpa_len hd
  rw [List.length_map] at hvl
  have htl := hT.ln
  have edv : (T : Int) / (f : Int) = ((T / f : Nat) : Int) := (Int.natCast_ediv T f).symm
  have dm : T / f * f ≤ T := Nat.div_mul_le_self T f
  have hTf : T / f ≤ T := Nat.div_le_self T f
  have emu : ((T / f : Nat) : Int) * (f : Int) = ((T / f * f : Nat) : Int) := (Int.natCast_mul _ _).symm
  unfold grownR at k
  generalize hA : T / f * f = A at *
  generalize hB : T / f = B at *
  unfold t_law_grown
  rw [st_law_grown]
  walk_at "py"
  refine nIxO (whole_at (by omega)) ?_
  walk_at "py"
  refine nLnT (by omega) ?_
  walk_at "py"
  rw [edv]
  walk_at "py"
  rw [emu]
  walk_at "py"
  rename_i t1 F1 H1 ht1 hF1 hs1 hT1 hz1 t2 F2 H2 ht2 hF2 hs2 hT2 hz2 t3 F3 H3 ht3 hF3 hs3 hT3 hz3 t4 F4 H4 ht4 hF4 hs4 hT4 hz4 l1 H5 hl1 hs5
  refine nCat (by simp; omega) fun q1 H6 hq1 hs6 => ?_
  walk_at "py"
  rename_i t5 F5 H7 ht5 hF5 hs7 hT5 hz5 t6 F6 H8 ht6 hF6 hs8 hT6 hz6 t7 F7 H9 ht7 hF7 hs9 hT7 hz7 l2 H10 hl2 hs10
  refine nCat (by simp; omega) fun q2 H11 hq2 hs11 => ?_
  walk_at "py"
  rename_i t8 F8 H12 ht8 hF8 hs12 hT8 hz8 t9 F9 H13 ht9 hF9 hs13 hT9 hz9 t10 F10 H14 ht10 hF10 hs14 hT10 hz10 l3 H15 hl3 hs15
  rw [edv] at hT8
  refine nCat (by simp; omega) fun q3 H16 hq3 hs16 => ?_
  walk_at "py"
  have hs17 := ((((hs16.drop 5).drop 4).drop 3).drop 2).drop 1
  simp only [List.eraseIdx_cons_zero, List.eraseIdx_cons_succ] at hs17
  have n9 : Same F9 F10 := hF10.h
  have n8 : Same F8 F10 := hF9.h.trans n9
  have n7 : Same F7 F10 := hF8.h.trans n8
  have n6 : Same F6 F10 := hF7.h.trans n7
  have n5 : Same F5 F10 := hF6.h.trans n6
  have n4 : Same F4 F10 := hF5.h.trans n5
  have n3 : Same F3 F10 := hF4.h.trans n4
  have n2 : Same F2 F10 := hF3.h.trans n3
  have n1 : Same F1 F10 := hF2.h.trans n2
  have n0 : Same F F10 := hF1.h.trans n1
  refine k q3 _ F10 H16 n0 hs17 ?_
  rw [List.map_append]
  simp only [List.append_assoc]
  refine dpa_app (dpa_mono n0 hd) ?_
  refine .cons (dp_mono n1 (dru (hT1 K) ?_)) (.cons (dp_mono n2 (dru (hT2 K) ?_)) (.cons (dp_mono n3 (dru (hT3 K) ?_)) (.cons (dp_mono n4 (dru (hT4 K) ?_)) (.cons (dp_mono n5 (dru (hT5 K) ?_)) (.cons (dp_mono n6 (dru (hT6 K) ?_)) (.cons (dp_mono n7 (dru (hT7 K) ?_)) (.cons (dp_mono n8 (dru (hT8 K) ?_)) (.cons (dp_mono n9 (dru (hT9 K) ?_)) (.cons (dru (hT10 K) ?_) .nil)))))))))
  all_goals simp only [ruV, List.cons.injEq, V.int.injEq, and_true, true_and]
  all_goals first | omega | (constructor <;> omega) | (refine ⟨?_, ?_⟩ <;> omega) | skip
end
open SX (S)
section
variable {K : PySem.W.Frag} {F H : Hp} {M : Ow} {Q : VK} {E : XK}
/-- Text of a list of rules that is ours: the list stands still from now on -/
theorem make_text {q : Addr} {vr : List V} {rs : List Ru} {ts : List Tx} [hs : Hs F ((q, .lst vr) :: M) H] (hd : DpAll K F vr (rs.map ruD)) (hT : Tab rs ts) (h1 : 1 ≤ rs.length) (h2 : rs.length ≤ 60)
    (h : ∀ x F' H', Same F F' → Hs F' M H' → TxO K F' x rs ts → Q (.ref x) H') : nMake (He.ga K "Text") (sp_Text_init K) E [.ref q] H Q := by
  have hs2 := hs.freeze (j := 0) rfl
  have e2 : Same F (upd F q (.lst vr)) := hs.same_freeze (j := 0) rfl
  have hq : (upd F q (.lst vr)) q = some (.lst vr) := upd_same
  generalize upd F q (HO.lst vr) = F2 at *
  simp only [List.eraseIdx_cons_zero] at hs2
  refine nMake_mk (ns := ns_Text) (hs := hs2) fun x dx F3 H3 hx3 hF3 hs3 => ?_
  refine ⟨F3, _, x, q, dx, _, vr, rs, ts, hs3, rfl, inferInstance, inferInstance, .inl (.inl (hF3.h _ _ hq)), (Pas.of (dpa_mono (e2.trans hF3.h) hd)), hT, h1, h2, fun F6 H6 p' q' vr' e6 hs6 g1 g2 g3 => ⟨rfl, ?_⟩⟩
  have hs7 := hs6.freeze (j := 0) rfl
  have e7 := hs6.same_freeze (j := 0) rfl
  refine h x _ H6 (((e2.trans hF3.h).trans e6).trans e7) hs7 ⟨hT, h1, by omega, dx, p', q', vr', upd_same, same_t e7 g1, dpa_mono e7 g2, same_t e7 g3⟩
end
def sp_law (K : PySem.W.Frag) : Sp := fun vs H Q _ => ∃ (a : Addr) (ns : List Int), vs = [.ref a] ∧ SqL K H a (ns.map V.int) ∧ ns.length ≤ 63 ∧ ∀ H', Q (.bl true) H'
theorem whole_end {ts us : List Tx} (h : us ≠ []) : whole (ts ++ us) = gt us (us.length - 1) := by
  have : 0 < us.length := List.length_pos_iff.mpr h
  unfold whole
  rw [List.length_append, show ts.length + us.length - 1 = ts.length + (us.length - 1) by omega, gt_app2]
section
variable {K : PySem.W.Frag}
theorem pure_law [ClsF K (He.ga K "Text") ns_Text] (vs : List V) (H : Hp) (Q : VK) (E : XK) (h : sp_law K vs H Q E) :
    t_law K (sp_law_pool K) (sp_law_rules K) (sp_law_take K) (sp_Text_init K) (sp_law_shifted K) (sp_law_grown K) (sp_law_same K 3) (sp_Text_letter K) (sp_Text_letters K) { nx := fun _ H' => Q .non H', rt := Q } (start N_law vs) H := by
  obtain ⟨a, ns, rfl, hx, hl, k⟩ := h
  unfold t_law
  rw [st_law]
  have hs : Hs H [] H := .start
  walk_at "py"
  refine ⟨H, [], a, ns, hs, rfl, hx, hl, fun p o F1 H1 e1 hP1 hs1 => ?_⟩
  walk_at "py"
  refine ⟨F1, _, p, o, _, 400, hs1, rfl, inferInstance, inferInstance, hP1, by omega, by omega, fun b rl tl vr rs ts o2 F2 H2 e2 hs2 hP2 hT2 hd2 hTab hr1 hr2 hle2 => ?_⟩
  have htl := hTab.ln
  have hvl := dpa_len hd2
  rw [List.length_map] at hvl
  have hwl : (whole ts).length ≤ 400 := hle2 _
  walk_at "py"
  refine nIxO (whole_at (by omega)) ?_
  walk_at "py"
  refine nLnT (by omega) ?_
  walk_at "py"
  refine take_go (by omega) (by omega) fun c o3 H3 c0 c1 hP3 hs3 => ?_
  obtain ⟨c, rfl⟩ : ∃ n : Nat, c = (n : Int) := ⟨c.toNat, by omega⟩
  have hc : c ≤ (whole ts).length := by omega
  walk_at "py"
  refine py_max2 (m := ((max 1 (whole ts).length : Nat) : Int)) (by split <;> omega) ?_
  walk_at "py"
  have edv : (1000000000000 : Int) / ((max 1 (whole ts).length : Nat) : Int) = ((1000000000000 / max 1 (whole ts).length : Nat) : Int) := rfl
  rw [edv]
  have hD1 : 1 ≤ 1000000000000 / max 1 (whole ts).length := (Nat.le_div_iff_mul_le (by omega)).mpr (by omega)
  have hD2 : 1000000000000 / max 1 (whole ts).length ≤ 1000000000000 := Nat.div_le_self _ _
  have hD3 : 1000000000000 / max 1 (whole ts).length * max 1 (whole ts).length ≤ 1000000000000 := Nat.div_mul_le_self _ _
  generalize 1000000000000 / max 1 (whole ts).length = D at *
  refine take_go (by omega) (by omega) fun t0 o4 H4 t00 t01 hP4 hs4 => ?_
  obtain ⟨t0, rfl⟩ : ∃ n : Nat, t0 = (n : Int) := ⟨t0.toNat, by omega⟩
  walk_at "py"
  refine cutI (I := fun σ' F' M' => ∃ (o' : HO) (T : Nat), F' = F2 ∧ M' = [(tl, HO.lst (ts.map txV)), (rl, HO.lst vr), (p, o')] ∧ Pool K F' o' ∧ 1 ≤ T ∧ T ≤ 1000000000000 ∧ T * (whole ts).length ≤ 1000000000000 ∧
      σ' = [some (.ref a), some (.ref p), some (.ref rl), some (.ref tl), some (.int ((whole ts).length : Int)), some (.int (c : Int)), some (.int (T : Int)), none, none, none, none, none, none, none]) ?_ ?_
  · walk_at "py"
    refine take_go (by decide) (by decide) fun r o5 H5 r0 r1 hP5 hs5 => ?_
    walk_at "py"
    refine ifP (fun c1 => ?_) (fun c1 => ?_)
    · walk_at "py"
      refine take_go (by decide) (by decide) fun t1 o6 H6 t10 t11 hP6 hs6 => ?_
      obtain ⟨t1, rfl⟩ : ∃ n : Nat, t1 = (n : Int) := ⟨t1.toNat, by omega⟩
      walk_at "py"
      have : (1 + t1) * (whole ts).length ≤ 10 * 400 := Nat.mul_le_mul (by omega) hwl
      exact ⟨F2, _, Same.refl _, hs6, o6, 1 + t1, rfl, rfl, hP6, by omega, by omega, by omega, by rw [Int.natCast_add]; rfl⟩
    · walk_at "py"
      have : (1 + t0) * (whole ts).length ≤ D * max 1 (whole ts).length := Nat.mul_le_mul (by omega) (by omega)
      exact ⟨F2, _, Same.refl _, hs5, o5, 1 + t0, rfl, rfl, hP5, by omega, by omega, by omega, by rw [Int.natCast_add]; rfl⟩
  rintro σ' F' M' H5 - hs5 ⟨o5, T, rfl, rfl, hP5, hT1, hTl, hTx, rfl⟩
  have eP : ((whole ts).length : Int) * (T : Int) = ((T * (whole ts).length : Nat) : Int) := by rw [Int.natCast_mul, Int.mul_comm]
  have hgtw : gt ts (rs.length - 1) = whole ts := by unfold whole; rw [htl]
  have hpwl : (pw (whole ts) T).length = T * (whole ts).length := pw_len
  walk_at "py"
  refine py_min2 (m := ((min T 100000 : Nat) : Int)) (by split <;> omega) ?_
  walk_at "py"
  refine take_go (by omega) (by omega) fun f0 o6 H6 f00 f01 hP6 hs6 => ?_
  obtain ⟨f0, rfl⟩ : ∃ n : Nat, f0 = (n : Int) := ⟨f0.toNat, by omega⟩
  walk_at "py"
  rename_i t1 F3 H7 ht1 hF3 hs7 hTt1 hzt1 l1 H8 hl1 hs8
  have hP7 : Pool K F3 o6 := hP6.mono hF3.h
  have hd3 := dpa_mono hF3.h hd2
  refine nCat (by simp; omega) fun q1 H9 hq1 hs9 => ?_
  walk_at "py"
  have tab1 : Tab (rs ++ [.power (rs.length - 1) T]) (ts ++ [pw (whole ts) T]) := by
    have := hTab.snoc (r := .power (rs.length - 1) T) ⟨by omega, hTl⟩ (by show (pw (gt ts (rs.length - 1)) T).length ≤ _; rw [hgtw, hpwl]; exact hTx)
    rw [show ruT ts (.power (rs.length - 1) T) = pw (whole ts) T by show pw (gt ts (rs.length - 1)) T = _; rw [hgtw]] at this
    exact this
  refine make_text (rs := rs ++ [.power (rs.length - 1) T]) (by
    rw [List.map_append]
    refine dpa_app hd3 (.cons (dru (hTt1 K) ?_) .nil)
    simp only [ruV, List.cons.injEq, V.int.injEq, and_true, true_and]
    omega) tab1 (by simp) (by simp; omega) fun x1 F4 H10 e4 hs10 hO1 => ?_
  have hF4 : Sm F3 F4 := ⟨e4⟩
  have hs11 := hs10.drop 0
  simp only [List.eraseIdx_cons_zero] at hs11
  have hd4 := dpa_mono e4 hd3
  walk_at "py"
  have hext := grown_ext (f := 1 + f0) hTab rfl hr1 hgtw hc (by omega) (by omega) hTx hTl
  refine ⟨F4, _, rl, tl, vr, rs, ts, c, T, 1 + f0, hs11, by rw [Int.natCast_add]; rfl, inferInstance, inferInstance, hd4, hTab, hr1, by omega, by omega, by omega, by omega, hTl, fun q2 vr2 F5 H11 e5 hs12 hd5 => ?_⟩
  have hF5 : Sm F4 F5 := ⟨e5⟩
  walk_at "py"
  refine make_text hd5 (hext.tab hTab) (by simp; omega) (by simp [grownR]; omega) fun x2 F6 H12 e6 hs13 hO2 => ?_
  have hF6 : Sm F5 F6 := ⟨e6⟩
  walk_at "py"
  have hext2 := shift_ext hTab rfl hr1 hgtw hc hT1 hTx hTl
  refine ⟨F6, _, rl, vr, rs, (whole ts).length, c, T, hs13, rfl, inferInstance, dpa_mono (e5.trans e6) hd4, hr1, by omega, hT1, hTl, fun q3 vr3 F7 H13 e7 hs14 hd7 => ?_⟩
  have hF7 : Sm F6 F7 := ⟨e7⟩
  walk_at "py"
  refine make_text hd7 (hext2.tab hTab) (by simp; omega) (by simp [shiftR]; omega) fun x3 F8 H14 e8 hs15 hO3 => ?_
  have hF8 : Sm F7 F8 := ⟨e8⟩
  walk_at "py"
  rename_i ol H15 hol hs16
  have w1 : whole (ts ++ [pw (whole ts) T]) = pw (whole ts) T := by rw [whole_end (by simp)]; rfl
  have w2 : whole (ts ++ grownT (whole ts) c T (1 + f0)) = pw (whole ts) T := by rw [whole_end (by simp [grownT])]; rfl
  have w3 : whole (ts ++ shiftT (whole ts) c T) = pw (whole ts) T := by rw [whole_end (by simp [shiftT])]; rfl
  have hO1' : TxO K F8 x1 _ _ := hO1.mono ((e5.trans e6).trans (e7.trans e8))
  have hO2' : TxO K F8 x2 _ _ := hO2.mono (e7.trans e8)
  have hP8 : Pool K F8 o6 := hP7.mono (e4.trans ((e5.trans e6).trans (e7.trans e8)))
  have both : ∀ (i : Nat) v, [V.ref x2, V.ref x3][i]? = some v → ∃ x rs' ts', v = .ref x ∧ TxO K F8 x rs' ts' ∧ whole ts' = pw (whole ts) T := by
    intro i v hi
    match i, hi with
    | 0, hi => cases hi; exact ⟨x2, _, _, rfl, hO2', w2⟩
    | 1, hi => cases hi; exact ⟨x3, _, _, rfl, hO3, w3⟩
    | _ + 2, hi => cases hi
  generalize hXW : pw (whole ts) T = XW at *
  generalize hPP : T * (whole ts).length = PP at *
  clear hO2 hO3 hO2' hext hext2 hd5 hd7 hO1 tab1
  obtain ⟨rs1, hrs1⟩ : ∃ r, r = rs ++ [Ru.power (rs.length - 1) T] := ⟨_, rfl⟩
  rw [← hrs1] at hO1'
  generalize hts1 : ts ++ [XW] = ts1 at *
  refine nLoopO (fun i σ' F' M' => ∃ (o' : HO) (w10 w11 w12 w13 : Option V), M' = [(ol, HO.lst [.ref x2, .ref x3]), (tl, HO.lst (ts.map txV)), (rl, HO.lst vr), (p, o')] ∧ Pool K F' o' ∧
      σ' = [some (.ref a), some (.ref p), some (.ref rl), some (.ref tl), some (.int ((whole ts).length : Int)), some (.int (c : Int)), some (.int (T : Int)), some (.int (1 + (f0 : Int))), some (.ref x1), some (.ref ol), w10, w11, w12, w13])
    ⟨o6, _, _, _, _, rfl, hP8, rfl⟩ (fun i σ' F' M' ⟨_, _, _, _, _, e, _⟩ => by rw [e]; exact im0) ?_ ?_
  · rintro i v σ' F' M' H' hi hF' hs' ⟨o', w10, w11, w12, w13, rfl, hP', rfl⟩
    obtain ⟨x, rs', ts', rfl, hO, hw⟩ := both i v hi
    obtain ⟨dx1, tp1, tq1, vr1', ho1, -⟩ := hO1'.ob
    obtain ⟨dx2, tp2, tq2, vr2', ho2, -⟩ := hO.ob
    rw [w1] at ho1
    rw [hw] at ho2
    have hb1 : Fz F8 x1 (Ob (He.ga K "Text") dx1 ns_Text [.ref tp1, .ref tq1, .int (XW.length : Int)]) := ⟨ho1⟩
    have hb2 : Fz F8 x (Ob (He.ga K "Text") dx2 ns_Text [.ref tp2, .ref tq2, .int (XW.length : Int)]) := ⟨ho2⟩
    walk_at "py"
    rw [eP, hpwl]
    refine ⟨F', _, _, _, .int (PP : Int), hs', rfl, .int _, .int _, trivial, fun F9 H16 e9 hs17 => ?_⟩
    have hF9 : Sm F' F9 := ⟨e9⟩
    walk_at "py"
    rw [eP, hpwl]
    refine ⟨F9, _, _, _, .int (PP : Int), hs17, rfl, .int _, .int _, trivial, fun F10 H17 e10 hs18 => ?_⟩
    have hF10 : Sm F' F10 := ⟨e9.trans e10⟩
    walk_at "py"
    refine nLoopR (fun j σ' F' M' => ∃ (o' : HO) (w11 w12 w13 : Option V), M' = [(ol, HO.lst [.ref x2, .ref x3]), (tl, HO.lst (ts.map txV)), (rl, HO.lst vr), (p, o')] ∧ Pool K F' o' ∧
      σ' = [some (.ref a), some (.ref p), some (.ref rl), some (.ref tl), some (.int ((whole ts).length : Int)), some (.int (c : Int)), some (.int (T : Int)), some (.int (1 + (f0 : Int))), some (.ref x1), some (.ref ol), some (.ref x), w11, w12, w13])
      ⟨o', _, _, _, rfl, hP'.mono hF10.h, rfl⟩ ?_ ?_
    · rintro j σ' F11 M' H18 hj hF11 hs19 ⟨o7, w11, w12, w13, rfl, hP11, rfl⟩
      have m11 : Same F8 F11 := (hF'.h.trans hF10.h).trans hF11.h
      have hb1' : Fz F11 x1 (Ob (He.ga K "Text") dx1 ns_Text [.ref tp1, .ref tq1, .int (XW.length : Int)]) := ⟨m11 _ _ ho1⟩
      have hb2' : Fz F11 x (Ob (He.ga K "Text") dx2 ns_Text [.ref tp2, .ref tq2, .int (XW.length : Int)]) := ⟨m11 _ _ ho2⟩
      walk_at "py"
      refine ifP (fun c1 => ?_) (fun c1 => ?_)
      · have hPP1 : 1 ≤ PP := by rw [← hPP]; exact Nat.mul_pos hT1 (by omega)
        walk_at "py"
        rw [eP]
        refine take_go (by omega) (by omega) fun d1 o8 H19 d10 d11 hP12 hs20 => ?_
        walk_at "py"
        rw [eP]
        refine py_min2 (m := ((min PP 500 : Nat) : Int)) (by split <;> omega) ?_
        walk_at "py"
        refine take_go (by omega) (by omega) fun d2 o9 H20 d20 d21 hP13 hs21 => ?_
        walk_at "py"
        rename_i T1 F12 H21 hT1' hF12 hs22 hTT1 hzT1
        have hP14 : Pool K F12 o9 := hP13.mono hF12.h
        refine take_go (by decide) (by decide) fun d3 o10 H22 d30 d31 hP15 hs23 => ?_
        obtain ⟨pl, hpl, hplA⟩ : ∃ pl : Nat, pl < PP ∧ atI [.int d1, .int ((PP : Int) - 1 - d2)] d3 = some (V.int (pl : Int)) := by
          have : d3 = 0 ∨ d3 = 1 := by omega
          rcases this with rfl | rfl
          · exact ⟨d1.toNat, by omega, by rw [show ((d1.toNat : Nat) : Int) = d1 by omega]; rfl⟩
          · exact ⟨((PP : Int) - 1 - d2).toNat, by omega, by rw [show ((((PP : Int) - 1 - d2).toNat : Nat) : Int) = (PP : Int) - 1 - d2 by omega]; rfl⟩
        have hTT1K := hTT1 K
        refine nIxT hplA ?_
        walk_at "py"
        rename_i T2 F13 H23 hT2' hF13 hs24 hTT2 hzT2
        have hP16 : Pool K F13 o10 := hP15.mono hF13.h
        refine take_go (by decide) (by decide) fun d4 o11 H24 d40 d41 hP17 hs25 => ?_
        obtain ⟨st, hst1, hst2, hstA⟩ : ∃ st : Nat, 1 ≤ st ∧ st ≤ 300 ∧ atI [.int 1, .int 20, .int 300] d4 = some (V.int (st : Int)) := by
          have : d4 = 0 ∨ d4 = 1 ∨ d4 = 2 := by omega
          rcases this with rfl | rfl | rfl
          · exact ⟨1, by omega, by omega, rfl⟩
          · exact ⟨20, by omega, by omega, rfl⟩
          · exact ⟨300, by omega, by omega, rfl⟩
        have hTT2K := hTT2 K
        refine nIxT hstA ?_
        walk_at "py"
        rw [eP]
        refine py_min2 (m := ((min PP (pl + st) : Nat) : Int)) (by split <;> omega) ?_
        have m13 : Same F8 F13 := (m11.trans hF12.h).trans hF13.h
        have hOa : TxO K F13 x1 rs1 ts1 := hO1'.mono m13
        have hOb : TxO K F13 x rs' ts' := hO.mono m13
        have hb1'' : Fz F13 x1 (Ob (He.ga K "Text") dx1 ns_Text [.ref tp1, .ref tq1, .int (XW.length : Int)]) := ⟨m13 _ _ ho1⟩
        have hb2'' : Fz F13 x (Ob (He.ga K "Text") dx2 ns_Text [.ref tp2, .ref tq2, .int (XW.length : Int)]) := ⟨m13 _ _ ho2⟩
        walk_at "py"
        refine ⟨F13, _, x, rs', ts', (pl : Int), hs25, rfl, hOb, fun n ch F14 H25 hn hch e14 hs26 => ?_, fun hb => absurd hb (by rw [hw]; omega)⟩
        have hn : n = pl := by omega
        subst hn
        rw [hw] at hch
        have hF14 : Sm F13 F14 := ⟨e14⟩
        walk_at "py"
        refine ⟨F14, _, x1, rs1, ts1, (n : Int), hs26, rfl, hOa.mono e14, fun n' ch' F15 H26 hn' hch' e15 hs27 => ?_, fun hb => absurd hb (by rw [w1]; omega)⟩
        have hn' : n' = n := by omega
        subst hn'
        rw [w1, hch] at hch'; cases hch'
        have hF15 : Sm F14 F15 := ⟨e15⟩
        walk_at "py"
        refine ⟨F15, _, _, _, .str (S [ch]), hs27, rfl, .str _, .str _, trivial, fun F16 H27 e16 hs28 => ?_⟩
        have hF16 : Sm F15 F16 := ⟨e16⟩
        walk_at "py"
        refine ⟨F16, _, x, rs', ts', (n' : Int), ((min PP (n' + st) : Nat) : Int), hs28, rfl, (hOb.mono e14).mono (e15.trans e16), fun xa ya F17 H28 hxa hya g5 g6 g7 e17 hs29 => ?_, fun _ _ _ hb => absurd hb (by omega), fun hb => absurd (by rw [hw]; omega) hb⟩
        have hxa : xa = n' := by omega
        have hya : ya = min PP (n' + st) := by omega
        subst hxa hya
        rw [hw]
        have hF17 : Sm F16 F17 := ⟨e17⟩
        walk_at "py"
        refine ⟨F17, _, x1, rs1, ts1, (xa : Int), ((min PP (xa + st) : Nat) : Int), hs29, rfl, ((hOa.mono e14).mono (e15.trans e16)).mono e17, fun xb yb F18 H29 hxb hyb g5' g6' g7' e18 hs30 => ?_, fun _ _ _ hb => absurd hb (by omega), fun hb => absurd (by rw [w1]; omega) hb⟩
        have hxb : xb = xa := by omega
        have hyb : yb = min PP (xa + st) := by omega
        subst hxb hyb
        rw [w1]
        have hF18 : Sm F17 F18 := ⟨e18⟩
        walk_at "py"
        refine ⟨F18, _, _, _, .str (S (cut XW xb (min PP (xb + st)))), hs30, rfl, .str _, .str _, trivial, fun F19 H30 e19 hs31 => ?_⟩
        walk_at "py"
        have m19 : Same F13 F19 := ((((e14.trans e15).trans e16).trans e17).trans e18).trans e19
        exact .mk (((hF11.h.trans hF12.h).trans hF13.h).trans m19) hs31 ⟨o11, _, _, _, rfl, hP17.mono m19, rfl⟩
      · walk_at "py"
        exact .mk (by walk_at "sm") hs19 ⟨o7, _, _, _, rfl, hP11, rfl⟩
    · rintro σ' F11 M' H18 hF11 hs19 ⟨o7, w11, w12, w13, rfl, hP11, rfl⟩
      exact .mk ((hF'.h.trans hF10.h).trans hF11.h) hs19 ⟨o7, _, _, _, _, rfl, hP11, rfl⟩
  · rintro σ' F' M' H' hF' hs' ⟨o', w10, w11, w12, w13, rfl, hP', rfl⟩
    walk_at "py"
    exact k H'
end
end Sh


set_option Elab.async false
set_option linter.all false
set_option maxRecDepth 100000
set_option maxHeartbeats 4000000
namespace Sh
open PySem PySem.Spec PyProof.Rows L2
def sizesL : List (Str × He.Dv) := [("letters", .int 2), ("join", .int 3), ("power", .int 3), ("part", .int 4), ("back", .int 2)]
/-! ### the row: places, scopes -/
def topS (i : Nat) : Stmt := PySem.Challenge.pw_shortheld_k05_whole_other_rules.main.body.getD i (.Pass ⟨0, 0, 0, 0⟩)
abbrev s_rule_length : Stmt := topS 14
theorem sc_rule_length : FnScope N_rule_length ["rule", "lengths"] (defScope s_rule_length) := ⟨rfl, rfl, rfl, by decide +kernel, rfl, by decide +kernel, by decide +kernel⟩
abbrev s_earlier : Stmt := topS 15
theorem sc_earlier : FnScope N_earlier ["rule"] (defScope s_earlier) := ⟨rfl, rfl, rfl, by decide +kernel, rfl, by decide +kernel, by decide +kernel⟩
abbrev s_fault : Stmt := topS 16
theorem sc_fault : FnScope N_fault ["rule", "lengths"] (defScope s_fault) := ⟨rfl, rfl, rfl, by decide +kernel, rfl, by decide +kernel, by decide +kernel⟩
abbrev s_lengths_of : Stmt := topS 17
theorem sc_lengths_of : FnScope N_lengths_of ["rules"] (defScope s_lengths_of) := ⟨rfl, rfl, rfl, by decide +kernel, rfl, by decide +kernel, by decide +kernel⟩
abbrev s_check_rules : Stmt := topS 18
theorem sc_check_rules : FnScope N_check_rules ["rules"] (defScope s_check_rules) := ⟨rfl, rfl, rfl, by decide +kernel, rfl, by decide +kernel, by decide +kernel⟩
abbrev s_inner_place : Stmt := topS 19
theorem sc_inner_place : FnScope N_inner_place ["rule", "lengths", "place"] (defScope s_inner_place) := ⟨rfl, rfl, rfl, by decide +kernel, rfl, by decide +kernel, by decide +kernel⟩
abbrev s_inner_parts : Stmt := topS 20
theorem sc_inner_parts : FnScope N_inner_parts ["rule", "lengths", "start", "stop"] (defScope s_inner_parts) := ⟨rfl, rfl, rfl, by decide +kernel, rfl, by decide +kernel, by decide +kernel⟩
abbrev s_NoPlace_init : Stmt := inClass (topS 4) 0
theorem sc_NoPlace_init : FnScope N_NoPlace_init ["self", "place"] (defScope s_NoPlace_init) := ⟨rfl, rfl, rfl, by decide +kernel, rfl, by decide +kernel, by decide +kernel⟩
abbrev s_NoPart_init : Stmt := inClass (topS 5) 0
theorem sc_NoPart_init : FnScope N_NoPart_init ["self", "start", "stop"] (defScope s_NoPart_init) := ⟨rfl, rfl, rfl, by decide +kernel, rfl, by decide +kernel, by decide +kernel⟩
abbrev s_Text_init : Stmt := inClass (topS 21) 0
theorem sc_Text_init : FnScope N_Text_init ["self", "rules"] (defScope s_Text_init) := ⟨rfl, rfl, rfl, by decide +kernel, rfl, by decide +kernel, by decide +kernel⟩
abbrev s_Text_letter : Stmt := inClass (topS 21) 3
theorem sc_Text_letter : FnScope N_Text_letter ["self", "place"] (defScope s_Text_letter) := ⟨rfl, rfl, rfl, by decide +kernel, rfl, by decide +kernel, by decide +kernel⟩
abbrev s_Text_check_part : Stmt := inClass (topS 21) 4
theorem sc_Text_check_part : FnScope N_Text_check_part ["self", "start", "stop"] (defScope s_Text_check_part) := ⟨rfl, rfl, rfl, by decide +kernel, rfl, by decide +kernel, by decide +kernel⟩
abbrev s_Text_letters : Stmt := inClass (topS 21) 5
theorem sc_Text_letters : FnScope N_Text_letters ["self", "start", "stop"] (defScope s_Text_letters) := ⟨rfl, rfl, rfl, by decide +kernel, rfl, by decide +kernel, by decide +kernel⟩
abbrev s_law_pool : Stmt := topS 23
theorem sc_law_pool : FnScope N_law_pool ["_law_script"] (defScope s_law_pool) := ⟨rfl, rfl, rfl, by decide +kernel, rfl, by decide +kernel, by decide +kernel⟩
abbrev s_law_take : Stmt := topS 24
theorem sc_law_take : FnScope N_law_take ["_law_pool_here", "_law_many"] (defScope s_law_take) := ⟨rfl, rfl, rfl, by decide +kernel, rfl, by decide +kernel, by decide +kernel⟩
abbrev s_law_is_integer : Stmt := topS 30
theorem sc_law_is_integer : FnScope N_law_is_integer ["_law_actual"] (defScope s_law_is_integer) := ⟨rfl, rfl, rfl, by decide +kernel, rfl, by decide +kernel, by decide +kernel⟩
abbrev s_law_same : Stmt := topS 31
theorem sc_law_same : FnScope N_law_same ["_law_actual", "_law_due"] (defScope s_law_same) := ⟨rfl, rfl, rfl, by decide +kernel, rfl, by decide +kernel, by decide +kernel⟩
abbrev s_law_written : Stmt := topS 25
theorem sc_law_written : FnScope N_law_written ["_law_pool_here"] (defScope s_law_written) := ⟨rfl, rfl, rfl, by decide +kernel, rfl, by decide +kernel, by decide +kernel⟩
abbrev s_law_number : Stmt := topS 26
theorem sc_law_number : FnScope N_law_number ["_law_pool_here", "_law_many"] (defScope s_law_number) := ⟨rfl, rfl, rfl, by decide +kernel, rfl, by decide +kernel, by decide +kernel⟩
abbrev s_law_next : Stmt := topS 27
theorem sc_law_next : FnScope N_law_next ["_law_pool_here", "_law_texts", "_law_most"] (defScope s_law_next) := ⟨rfl, rfl, rfl, by decide +kernel, rfl, by decide +kernel, by decide +kernel⟩
abbrev s_law_made : Stmt := topS 28
theorem sc_law_made : FnScope N_law_made ["_law_texts", "_law_rule"] (defScope s_law_made) := ⟨rfl, rfl, rfl, by decide +kernel, rfl, by decide +kernel, by decide +kernel⟩
abbrev s_law_rules : Stmt := topS 29
theorem sc_law_rules : FnScope N_law_rules ["_law_pool_here", "_law_most"] (defScope s_law_rules) := ⟨rfl, rfl, rfl, by decide +kernel, rfl, by decide +kernel, by decide +kernel⟩
abbrev s_law_grown : Stmt := topS 32
theorem sc_law_grown : FnScope N_law_grown ["_law_rules_here", "_law_texts", "_law_cut", "_law_times", "_law_first"] (defScope s_law_grown) := ⟨rfl, rfl, rfl, by decide +kernel, rfl, by decide +kernel, by decide +kernel⟩
abbrev s_law_shifted : Stmt := topS 33
theorem sc_law_shifted : FnScope N_law_shifted ["_law_rules_here", "_law_size", "_law_cut", "_law_times"] (defScope s_law_shifted) := ⟨rfl, rfl, rfl, by decide +kernel, rfl, by decide +kernel, by decide +kernel⟩
abbrev s_law : Stmt := topS 34
theorem sc_law : FnScope N_law ["_law_script"] (defScope s_law) := ⟨rfl, rfl, rfl, by decide +kernel, rfl, by decide +kernel, by decide +kernel⟩
/-- what the top has written -/
structure Tp (w : World) (K : PySem.W.Frag) (mg : Str → Option Value) : Prop where
  f_all : mg "all" = none
  f_bool : mg "bool" = none
  f_enumerate : mg "enumerate" = none
  f_int : mg "int" = none
  f_isinstance : mg "isinstance" = none
  f_len : mg "len" = none
  f_list : mg "list" = none
  f_max : mg "max" = none
  f_min : mg "min" = none
  f_range : mg "range" = none
  f_str : mg "str" = none
  f_tuple : mg "tuple" = none
  g_LETTERS : ∃ t, mg "LETTERS" = some (.str " !\"#$&'()*+,-./0123456789:;<=>?@ABCDEFGHIJKLMNOPQRSTUVWXYZ[\\]^_`abcdefghijklmnopqrstuvwxyz{|}~" t)
  g_MOST_LETTERS : ∃ t, mg "MOST_LETTERS" = some (.int 1000000000000 t)
  g_MOST_RULES : ∃ t, mg "MOST_RULES" = some (.int 60 t)
  g_MOST_TOLD : ∃ t, mg "MOST_TOLD" = some (.int 1000 t)
  g_MOST_WRITTEN : ∃ t, mg "MOST_WRITTEN" = some (.int 64 t)
  g_SIZES : mg "SIZES" = some (.ref (He.ga K "SIZES"))
  c_Text : ClsF K (He.ga K "Text") ns_Text
  d_SIZES : ∃ es n, KDict K w (He.ga K "SIZES") es n
  s_SIZES : SzT K
  k_NoPlace : Exk K "NoPlace" ["place"]
  k_NoPart : Exk K "NoPart" ["start", "stop"]
  o_TooLong : Exo K mg "TooLong"
section
variable {P : Program} {w : World} {K : PySem.W.Frag} {mg : Str → Option Value} {base : Heap}
theorem ok_rule_length {f : Addr} {fd : FuncData} (T : Tp w K mg) (F : FunD K "rule_length" "rule_length" (defArgs s_rule_length) (defBody s_rule_length) (defScope s_rule_length) [] [] f fd) : FnOk P w K mg base CX0 1 f fd ["rule", "lengths"] (sp_rule_length K) := by
  have := T.c_Text
  have := T.s_SIZES
  refine FunD.ok F sc_rule_length (fun vs H Q E h => ?_) (fun cdv A outer s H vs Q E hr h => ⟨t_rule_length K, PSs.nox ?_, pure_rule_length vs H Q E h⟩)
  · (repeat obtain ⟨_, h⟩ := h)
    subst_vars
    rfl
  · exact (pss_cons (ps_set (i := 2) sc_rule_length.nd rfl (Or.inl rfl) (pe_ix ix_seq (pv 0) pe_int (fun _ _ => rfl))) (pss_cons (ps_if (pt_cmpR op_eq (pv 2) pe_str (nomark _)) (pss_one (ps_ret (pe_callB call_len (by rfl) T.f_len (by decide +kernel) (pa_cons (pe_ix ix_seq (pv 0) pe_int (fun _ _ => rfl)) pa_nil)))) pss_nil) (pss_cons (ps_if (pt_cmpR op_eq (pv 2) pe_str (nomark _)) (pss_one (ps_ret (pe_op op_add (pe_ix ix_seq (pv 1) (pe_ix ix_seq (pv 0) pe_int (fun _ _ => rfl)) (fun _ _ => rfl)) (pe_ix ix_seq (pv 1) (pe_ix ix_seq (pv 0) pe_int (fun _ _ => rfl)) (fun _ _ => rfl))))) pss_nil) (pss_cons (ps_if (pt_cmpR op_eq (pv 2) pe_str (nomark _)) (pss_one (ps_ret (pe_op op_mul (pe_ix ix_seq (pv 1) (pe_ix ix_seq (pv 0) pe_int (fun _ _ => rfl)) (fun _ _ => rfl)) (pe_ix ix_seq (pv 0) pe_int (fun _ _ => rfl))))) pss_nil) (pss_cons (ps_if (pt_cmpR op_eq (pv 2) pe_str (nomark _)) (pss_one (ps_ret (pe_op op_sub (pe_ix ix_seq (pv 0) pe_int (fun _ _ => rfl)) (pe_ix ix_seq (pv 0) pe_int (fun _ _ => rfl))))) pss_nil) (pss_one (ps_ret (pe_ix ix_seq (pv 1) (pe_ix ix_seq (pv 0) pe_int (fun _ _ => rfl)) (fun _ _ => rfl)))))))))
theorem ok_earlier {f : Addr} {fd : FuncData} (T : Tp w K mg) (F : FunD K "earlier" "earlier" (defArgs s_earlier) (defBody s_earlier) (defScope s_earlier) [] [] f fd) : FnOk P w K mg base CX0 1 f fd ["rule"] (sp_earlier K) := by
  have := T.c_Text
  have := T.s_SIZES
  refine FunD.ok F sc_earlier (fun vs H Q E h => ?_) (fun cdv A outer s H vs Q E hr h => ⟨t_earlier K, PSs.nox ?_, pure_earlier vs H Q E h⟩)
  · (repeat obtain ⟨_, h⟩ := h)
    subst_vars
    rfl
  · exact (pss_cons (ps_if (pt_cmpR op_eq (pe_ix ix_seq (pv 0) pe_int (fun _ _ => rfl)) pe_str (nomark _)) (pss_one (ps_ret (pe_tup pa_nil))) pss_nil) (pss_one (ps_ret (pe_ifExp (pt_cmpR op_eq (pe_ix ix_seq (pv 0) pe_int (fun _ _ => rfl)) pe_str (nomark _)) (pe_slice sl_lt (pv 0) (po_some pe_int) (po_some pe_int)) (pe_slice sl_lt (pv 0) (po_some pe_int) (po_some pe_int))))))
theorem ok_fault {f : Addr} {fd : FuncData} (T : Tp w K mg) (F : FunD K "fault" "fault" (defArgs s_fault) (defBody s_fault) (defScope s_fault) [] [] f fd) (G_earlier : Fn P w K mg base CX0 "earlier" 1 ["rule"] [] (sp_earlier K)) (G_rule_length : Fn P w K mg base CX0 "rule_length" 1 ["rule", "lengths"] [] (sp_rule_length K)) : FnOk P w K mg base CX0 2 f fd ["rule", "lengths"] (sp_fault K) := by
  have := T.c_Text
  have := T.s_SIZES
  refine FunD.ok F sc_fault (fun vs H Q E h => ?_) (fun cdv A outer s H vs Q E hr h => ⟨t_fault K (sp_earlier K) (sp_rule_length K), PSs.nox ?_, pure_fault vs H Q E h⟩)
  · (repeat obtain ⟨_, h⟩ := h)
    subst_vars
    rfl
  · exact (pss_cons (ps_set (i := 2) sc_fault.nd rfl (Or.inl rfl) (pe_ifExp (pt_truth (pv 0) (by intro _; rfl)) (pe_ix ix_seq (pv 0) pe_int (fun _ _ => rfl)) pe_str)) (pss_cons (ps_if (pt_cmpR (op_notInK T.d_SIZES) (pv 2) (pe_glob rfl T.g_SIZES rfl) rfl) (pss_one (ps_ret pe_str)) pss_nil) (pss_cons (ps_if (pt_cmpR op_ne (pe_callB call_len (by rfl) T.f_len (by decide +kernel) (pa_cons (pv 0) pa_nil)) (pe_ix (ix_K T.d_SIZES) (pe_glob rfl T.g_SIZES rfl) (pv 2) (fun _ _ => rfl)) (nomark _)) (pss_one (ps_ret pe_str)) pss_nil) (pss_cons (ps_if (pt_cmpR op_eq (pv 2) pe_str (nomark _)) (pss_cons (ps_set (i := 3) sc_fault.nd rfl (Or.inl rfl) (pe_and (pe_cmpR op_le (pe_callB call_len (by rfl) T.f_len (by decide +kernel) (pa_cons (pe_ix ix_seq (pv 0) pe_int (fun _ _ => rfl)) pa_nil)) (pe_gI T.g_MOST_WRITTEN) (nomark _)) (pe_one (pe_callB (cr_all rfl) (by rfl) T.f_all (by decide +kernel) (pa_cons (pe_lc (own := [("letter", 4)]) (g := (gName 4)) (tt := tYes) (by rfl) sc_fault.nd (pi_str (pe_ix ix_seq (pv 0) pe_int (fun _ _ => rfl))) (blkOk_by (own := [("letter", 4)]) (N := N_fault) (sc := defScope s_fault) (by decide +kernel)) (fun _ _ _ _ _ => (pg_name (i := 4) sc_fault.nd rfl (Or.inl rfl))) (fun _ _ _ _ _ => pts_nil) (fun _ _ _ _ _ => (pe_cmpR op_in_sign (pv 4) (pe_gS T.g_LETTERS) rfl))) pa_nil))))) (pss_one (ps_ret (pe_ifExp (pt_truth (pv 3) (by intro _; rfl)) pe_non pe_str)))) pss_nil) (pss_cons (ps_if (pt_not (pt_val (pe_callB (cr_all rfl) (by rfl) T.f_all (by decide +kernel) (pa_cons (pe_lc (own := [("number", 5)]) (g := (gName 5)) (tt := tYes) (by rfl) sc_fault.nd (pi_lt (pe_fn G_earlier (hr.mono (by decide)) pass0 (pa_cons (pv 0) pa_nil))) (blkOk_by (own := [("number", 5)]) (N := N_fault) (sc := defScope s_fault) (by decide +kernel)) (fun _ _ _ _ _ => (pg_name (i := 5) sc_fault.nd rfl (Or.inl rfl))) (fun _ _ _ _ _ => pts_nil) (fun _ _ _ _ _ => (pe_chain op_le op_lt pe_int (pv 5) (pe_callB call_len (by rfl) T.f_len (by decide +kernel) (pa_cons (pv 1) pa_nil))))) pa_nil)))) (pss_one (ps_ret pe_str)) pss_nil) (pss_cons (ps_if (PW.pt (pw_and (pt_cmpR op_eq (pv 2) pe_str (nomark _)) (pw_and1 (pt_not (pt_chain op_le op_le pe_int (pe_ix ix_seq (pv 0) pe_int (fun _ _ => rfl)) (pe_gI T.g_MOST_LETTERS)))))) (pss_one (ps_ret pe_str)) pss_nil) (pss_cons (ps_if (PW.pt (pw_and (pt_cmpR op_eq (pv 2) pe_str (nomark _)) (pw_and1 (pt_not (pt_chain3 op_le op_le op_le pe_int (pe_ix ix_seq (pv 0) pe_int (fun _ _ => rfl)) (pe_ix ix_seq (pv 0) pe_int (fun _ _ => rfl)) (pe_ix ix_seq (pv 1) (pe_ix ix_seq (pv 0) pe_int (fun _ _ => rfl)) (fun _ _ => rfl))))))) (pss_one (ps_ret pe_str)) pss_nil) (pss_one (ps_ret (pe_ifExp (pt_cmpR op_gt (pe_fn G_rule_length (hr.mono (by decide)) pass0 (pa_cons (pv 0) (pa_cons (pv 1) pa_nil))) (pe_gI T.g_MOST_LETTERS) (nomark _)) pe_str pe_non))))))))))
theorem ok_lengths_of {f : Addr} {fd : FuncData} (T : Tp w K mg) (F : FunD K "lengths_of" "lengths_of" (defArgs s_lengths_of) (defBody s_lengths_of) (defScope s_lengths_of) [] [] f fd) (G_rule_length : Fn P w K mg base CX0 "rule_length" 1 ["rule", "lengths"] [] (sp_rule_length K)) : FnOk P w K mg base CX0 2 f fd ["rules"] (sp_lengths_of K) := by
  have := T.c_Text
  have := T.s_SIZES
  refine FunD.ok F sc_lengths_of (fun vs H Q E h => ?_) (fun cdv A outer s H vs Q E hr h => ⟨t_lengths_of K (sp_rule_length K), PSs.nox ?_, pure_lengths_of vs H Q E h⟩)
  · (repeat obtain ⟨_, h⟩ := h)
    subst_vars
    rfl
  · exact (pss_cons (ps_set (i := 1) sc_lengths_of.nd rfl (Or.inl rfl) (pe_lst pa_nil)) (pss_cons (ps_for PassesOwn.never rfl (pi_tup (pv 0)) (pg_name (i := 2) sc_lengths_of.nd rfl (Or.inl rfl)) (pss_one (ps_expr (pe_bm PySem.F.plainAttrs_list PySem.F.slot_list_append PySem.F.type_list_append mt_append (pv 1) (pa_cons (pe_fn G_rule_length (hr.mono (by decide)) pass0 (pa_cons (pv 2) (pa_cons (pv 1) pa_nil))) pa_nil))))) (pss_one (ps_ret (pe_callTy call_tuple_of (by rfl) T.f_tuple (by decide +kernel) (pa_cons (pv 1) pa_nil))))))
theorem ok_check_rules {f : Addr} {fd : FuncData} (T : Tp w K mg) (F : FunD K "check_rules" "check_rules" (defArgs s_check_rules) (defBody s_check_rules) (defScope s_check_rules) [] [] f fd) (G_fault : Fn P w K mg base CX0 "fault" 2 ["rule", "lengths"] [] (sp_fault K)) (G_rule_length : Fn P w K mg base CX0 "rule_length" 1 ["rule", "lengths"] [] (sp_rule_length K)) : FnOk P w K mg base CX0 3 f fd ["rules"] (sp_check_rules K) := by
  have := T.c_Text
  have := T.s_SIZES
  refine FunD.ok F sc_check_rules (fun vs H Q E h => ?_) (fun cdv A outer s H vs Q E hr h => ⟨t_check_rules K (sp_fault K) (sp_rule_length K), PSs.nox ?_, pure_check_rules vs H Q E h⟩)
  · (repeat obtain ⟨_, h⟩ := h)
    subst_vars
    rfl
  · exact (pss_cons (ps_if (pt_not (pt_chain op_le op_le pe_int (pe_callB call_len (by rfl) T.f_len (by decide +kernel) (pa_cons (pv 0) pa_nil)) (pe_gI T.g_MOST_RULES))) (pss_one ps_dead) pss_nil) (pss_cons (ps_set (i := 1) sc_check_rules.nd rfl (Or.inl rfl) (pe_lst pa_nil)) (pss_one (ps_for PassesOwn.never rfl (pi_enum (by rfl) T.f_enumerate (pa_cons (pv 0) pa_nil)) (pg_tup rfl (pgs_cons (pg_name (i := 2) sc_check_rules.nd rfl (Or.inl rfl)) (pgs_cons (pg_name (i := 3) sc_check_rules.nd rfl (Or.inl rfl)) pgs_nil))) (pss_cons (ps_set (i := 4) sc_check_rules.nd rfl (Or.inl rfl) (pe_fn G_fault (hr.mono (by decide)) pass0 (pa_cons (pv 3) (pa_cons (pv 1) pa_nil)))) (pss_cons (ps_if (pt_cmpR op_notN (pv 4) pe_non (nomark _)) (pss_one ps_dead) pss_nil) (pss_one (ps_expr (pe_bm PySem.F.plainAttrs_list PySem.F.slot_list_append PySem.F.type_list_append mt_append (pv 1) (pa_cons (pe_fn G_rule_length (hr.mono (by decide)) pass0 (pa_cons (pv 3) (pa_cons (pv 1) pa_nil))) pa_nil))))))))))
theorem ok_inner_place {f : Addr} {fd : FuncData} (T : Tp w K mg) (F : FunD K "inner_place" "inner_place" (defArgs s_inner_place) (defBody s_inner_place) (defScope s_inner_place) [] [] f fd) : FnOk P w K mg base CX0 1 f fd ["rule", "lengths", "place"] (sp_inner_place K) := by
  have := T.c_Text
  have := T.s_SIZES
  refine FunD.ok F sc_inner_place (fun vs H Q E h => ?_) (fun cdv A outer s H vs Q E hr h => ⟨t_inner_place K, PSs.nox ?_, pure_inner_place vs H Q E h⟩)
  · (repeat obtain ⟨_, h⟩ := h)
    subst_vars
    rfl
  · exact (pss_cons (ps_set (i := 3) sc_inner_place.nd rfl (Or.inl rfl) (pe_ix ix_seq (pv 0) pe_int (fun _ _ => rfl))) (pss_cons (ps_if (pt_cmpR op_eq (pv 3) pe_str (nomark _)) (pss_cons (ps_set (i := 4) sc_inner_place.nd rfl (Or.inl rfl) (pe_ix ix_seq (pv 1) (pe_ix ix_seq (pv 0) pe_int (fun _ _ => rfl)) (fun _ _ => rfl))) (pss_one (ps_ret (pe_ifExp (pt_cmpR op_lt (pv 2) (pv 4) (nomark _)) (pe_tup (pa_cons (pe_ix ix_seq (pv 0) pe_int (fun _ _ => rfl)) (pa_cons (pv 2) pa_nil))) (pe_tup (pa_cons (pe_ix ix_seq (pv 0) pe_int (fun _ _ => rfl)) (pa_cons (pe_op op_sub (pv 2) (pv 4)) pa_nil))))))) pss_nil) (pss_cons (ps_if (pt_cmpR op_eq (pv 3) pe_str (nomark _)) (pss_cons (ps_set (i := 5) sc_inner_place.nd rfl (Or.inl rfl) (pe_ix ix_seq (pv 1) (pe_ix ix_seq (pv 0) pe_int (fun _ _ => rfl)) (fun _ _ => rfl))) (pss_one (ps_ret (pe_tup (pa_cons (pe_ix ix_seq (pv 0) pe_int (fun _ _ => rfl)) (pa_cons (pe_op op_sub (pv 2) (pe_op op_mul (pv 5) (pe_op op_fdivW (pv 2) (pv 5)))) pa_nil)))))) pss_nil) (pss_cons (ps_if (pt_cmpR op_eq (pv 3) pe_str (nomark _)) (pss_one (ps_ret (pe_tup (pa_cons (pe_ix ix_seq (pv 0) pe_int (fun _ _ => rfl)) (pa_cons (pe_op op_add (pv 2) (pe_ix ix_seq (pv 0) pe_int (fun _ _ => rfl))) pa_nil))))) pss_nil) (pss_one (ps_ret (pe_tup (pa_cons (pe_ix ix_seq (pv 0) pe_int (fun _ _ => rfl)) (pa_cons (pe_op op_sub (pe_op op_sub (pe_ix ix_seq (pv 1) (pe_ix ix_seq (pv 0) pe_int (fun _ _ => rfl)) (fun _ _ => rfl)) pe_int) (pv 2)) pa_nil)))))))))
theorem ok_inner_parts {f : Addr} {fd : FuncData} (T : Tp w K mg) (F : FunD K "inner_parts" "inner_parts" (defArgs s_inner_parts) (defBody s_inner_parts) (defScope s_inner_parts) [] [] f fd) : FnOk P w K mg base CX0 1 f fd ["rule", "lengths", "start", "stop"] (sp_inner_parts K) := by
  have := T.c_Text
  have := T.s_SIZES
  refine FunD.ok F sc_inner_parts (fun vs H Q E h => ?_) (fun cdv A outer s H vs Q E hr h => ⟨t_inner_parts K, PSs.nox ?_, pure_inner_parts vs H Q E h⟩)
  · (repeat obtain ⟨_, h⟩ := h)
    subst_vars
    rfl
  · exact (pss_cons (ps_set (i := 4) sc_inner_parts.nd rfl (Or.inl rfl) (pe_ix ix_seq (pv 0) pe_int (fun _ _ => rfl))) (pss_cons (ps_set (i := 5) sc_inner_parts.nd rfl (Or.inl rfl) (pe_ix ix_seq (pv 0) pe_int (fun _ _ => rfl))) (pss_cons (ps_set (i := 6) sc_inner_parts.nd rfl (Or.inl rfl) (pe_ix ix_seq (pv 1) (pv 5) (fun _ _ => rfl))) (pss_cons (ps_if (pt_cmpR op_eq (pv 4) pe_str (nomark _)) (pss_one (ps_ret (pe_lst (pa_cons (pe_tup (pa_cons (pv 5) (pa_cons (pe_op op_add (pv 2) (pe_ix ix_seq (pv 0) pe_int (fun _ _ => rfl))) (pa_cons (pe_op op_add (pv 3) (pe_ix ix_seq (pv 0) pe_int (fun _ _ => rfl))) (pa_cons pe_bl pa_nil))))) pa_nil)))) pss_nil) (pss_cons (ps_if (pt_cmpR op_eq (pv 4) pe_str (nomark _)) (pss_one (ps_ret (pe_lst (pa_cons (pe_tup (pa_cons (pv 5) (pa_cons (pe_op op_sub (pv 6) (pv 3)) (pa_cons (pe_op op_sub (pv 6) (pv 2)) (pa_cons pe_bl pa_nil))))) pa_nil)))) pss_nil) (pss_cons (ps_if (pt_cmpR op_eq (pv 4) pe_str (nomark _)) (pss_cons (ps_set (i := 7) sc_inner_parts.nd rfl (Or.inl rfl) (pe_lst pa_nil)) (pss_cons (ps_for PassesOwn.never rfl (pi_range2 (by rfl) T.f_range (pa_cons (pe_op op_fdivW (pv 2) (pv 6)) (pa_cons (pe_op op_add (pe_op op_fdivW (pe_op op_sub (pv 3) pe_int) (pv 6)) pe_int) pa_nil))) (pg_name (i := 8) sc_inner_parts.nd rfl (Or.inl rfl)) (pss_cons (ps_set (i := 9) sc_inner_parts.nd rfl (Or.inl rfl) (pe_op op_mul (pv 8) (pv 6))) (pss_one (ps_expr (pe_bm PySem.F.plainAttrs_list PySem.F.slot_list_append PySem.F.type_list_append mt_append (pv 7) (pa_cons (pe_tup (pa_cons (pv 5) (pa_cons (pe_callB (call_max2 rfl) (by rfl) T.f_max (by decide +kernel) (pa_cons (pe_op op_sub (pv 2) (pv 9)) (pa_cons pe_int pa_nil))) (pa_cons (pe_callB (call_min2 rfl) (by rfl) T.f_min (by decide +kernel) (pa_cons (pe_op op_sub (pv 3) (pv 9)) (pa_cons (pv 6) pa_nil))) (pa_cons pe_bl pa_nil))))) pa_nil)))))) (pss_one (ps_ret (pv 7))))) pss_nil) (pss_cons (ps_set (i := 7) sc_inner_parts.nd rfl (Or.inl rfl) (pe_lst pa_nil)) (pss_cons (ps_if (pt_cmpR op_lt (pv 2) (pv 6) (nomark _)) (pss_one (ps_expr (pe_bm PySem.F.plainAttrs_list PySem.F.slot_list_append PySem.F.type_list_append mt_append (pv 7) (pa_cons (pe_tup (pa_cons (pv 5) (pa_cons (pv 2) (pa_cons (pe_callB (call_min2 rfl) (by rfl) T.f_min (by decide +kernel) (pa_cons (pv 3) (pa_cons (pv 6) pa_nil))) (pa_cons pe_bl pa_nil))))) pa_nil)))) pss_nil) (pss_cons (ps_if (pt_cmpR op_gt (pv 3) (pv 6) (nomark _)) (pss_one (ps_expr (pe_bm PySem.F.plainAttrs_list PySem.F.slot_list_append PySem.F.type_list_append mt_append (pv 7) (pa_cons (pe_tup (pa_cons (pe_ix ix_seq (pv 0) pe_int (fun _ _ => rfl)) (pa_cons (pe_callB (call_max2 rfl) (by rfl) T.f_max (by decide +kernel) (pa_cons (pe_op op_sub (pv 2) (pv 6)) (pa_cons pe_int pa_nil))) (pa_cons (pe_op op_sub (pv 3) (pv 6)) (pa_cons pe_bl pa_nil))))) pa_nil)))) pss_nil) (pss_one (ps_ret (pv 7))))))))))))
theorem ok_NoPlace_init {f : Addr} {fd : FuncData} (T : Tp w K mg) (F : FunD K "__init__" "NoPlace.__init__" (defArgs s_NoPlace_init) (defBody s_NoPlace_init) (defScope s_NoPlace_init) [] [] f fd) : FnOk P w K mg base CX0 1 f fd ["self", "place"] (sp_NoPlace_init K) := by
  have := T.c_Text
  have := T.s_SIZES
  refine FunD.ok F sc_NoPlace_init (fun vs H Q E h => ?_) (fun cdv A outer s H vs Q E hr h => ⟨t_NoPlace_init K, PSs.nox ?_, pure_NoPlace_init vs H Q E h⟩)
  · (repeat obtain ⟨_, h⟩ := h)
    subst_vars
    rfl
  · exact (pss_one (ps_ost (pv 0) (pv 1)))
theorem ok_NoPart_init {f : Addr} {fd : FuncData} (T : Tp w K mg) (F : FunD K "__init__" "NoPart.__init__" (defArgs s_NoPart_init) (defBody s_NoPart_init) (defScope s_NoPart_init) [] [] f fd) : FnOk P w K mg base CX0 1 f fd ["self", "start", "stop"] (sp_NoPart_init K) := by
  have := T.c_Text
  have := T.s_SIZES
  refine FunD.ok F sc_NoPart_init (fun vs H Q E h => ?_) (fun cdv A outer s H vs Q E hr h => ⟨t_NoPart_init K, PSs.nox ?_, pure_NoPart_init vs H Q E h⟩)
  · (repeat obtain ⟨_, h⟩ := h)
    subst_vars
    rfl
  · exact (pss_cons (ps_ost (pv 0) (pv 1)) (pss_one (ps_ost (pv 0) (pv 2))))
theorem ok_Text_init {f : Addr} {fd : FuncData} (T : Tp w K mg) (F : FunD K "__init__" "Text.__init__" (defArgs s_Text_init) (defBody s_Text_init) (defScope s_Text_init) [] [] f fd) (G_check_rules : Fn P w K mg base CX0 "check_rules" 3 ["rules"] [] (sp_check_rules K)) (G_lengths_of : Fn P w K mg base CX0 "lengths_of" 2 ["rules"] [] (sp_lengths_of K)) : FnOk P w K mg base CX0 4 f fd ["self", "rules"] (sp_Text_init K) := by
  have := T.c_Text
  have := T.s_SIZES
  refine FunD.ok F sc_Text_init (fun vs H Q E h => ?_) (fun cdv A outer s H vs Q E hr h => ⟨t_Text_init K (sp_check_rules K) (sp_lengths_of K), PSs.nox ?_, pure_Text_init vs H Q E h⟩)
  · (repeat obtain ⟨_, h⟩ := h)
    subst_vars
    rfl
  · exact (pss_cons (ps_expr (pe_fn G_check_rules (hr.mono (by decide)) pass0 (pa_cons (pv 1) pa_nil))) (pss_cons (ps_fld (pv 0) (pe_callTy call_tuple_of (by rfl) T.f_tuple (by decide +kernel) (pa_cons (pe_lc (own := [("rule", 2)]) (g := (gName 2)) (tt := tYes) (by rfl) sc_Text_init.nd (pi_lt (pv 1)) (blkOk_by (own := [("rule", 2)]) (N := N_Text_init) (sc := defScope s_Text_init) (by decide +kernel)) (fun _ _ _ _ _ => (pg_name (i := 2) sc_Text_init.nd rfl (Or.inl rfl))) (fun _ _ _ _ _ => pts_nil) (fun _ _ _ _ _ => (pe_callTy call_tuple_of (by rfl) T.f_tuple (by decide +kernel) (pa_cons (pv 2) pa_nil)))) pa_nil)) rfl) (pss_cons (ps_fld (pv 0) (pe_fn G_lengths_of (hr.mono (by decide)) pass0 (pa_cons (pe_fld (pv 0) rfl) pa_nil)) rfl) (pss_one (ps_fld (pv 0) (pe_ix ix_seq (pe_fld (pv 0) rfl) (pe_un un_neg pe_int) (fun _ _ => rfl)) rfl)))))
theorem ok_Text_letter {f : Addr} {fd : FuncData} (T : Tp w K mg) (F : FunD K "letter" "Text.letter" (defArgs s_Text_letter) (defBody s_Text_letter) (defScope s_Text_letter) [] [] f fd) (G_NoPlace_init : Exi P w K mg base CX0 "NoPlace" 1 ["self", "place"] [] (sp_NoPlace_init K)) (G_inner_place : Fn P w K mg base CX0 "inner_place" 1 ["rule", "lengths", "place"] [] (sp_inner_place K)) : FnOk P w K mg base (L2.CX P w) 3 f fd ["self", "place"] (sp_Text_letter K) := by
  have := T.c_Text
  have := T.s_SIZES
  refine FunD.ok F sc_Text_letter (fun vs H Q E h => ?_) (fun cdv A outer s H vs Q E hr h => ⟨t_Text_letter K (sp_NoPlace_init K) (sp_inner_place K) E, ?_, pure_Text_letter T.k_NoPlace vs H Q E h⟩)
  · (repeat obtain ⟨_, h⟩ := h)
    subst_vars
    rfl
  · exact (pss_cons (ps_if (pt_not (pt_chain op_le op_lt pe_int (pv 1) (pe_fld (pv 0) rfl))) (pss_one (ps_raiseO G_NoPlace_init (hr.mono (by decide)) (takes_of rfl rfl rfl rfl) (pa_cons (pv 1) pa_nil))) pss_nil) (pss_cons (ps_set (i := 2) sc_Text_letter.nd rfl (Or.inl rfl) (pe_ix ix_seq (pe_fld (pv 0) rfl) (pe_un un_neg pe_int) (fun _ _ => rfl))) (pss_cons (ps_while (passes_of rfl) (pt_cmpR op_ne (pe_ix ix_seq (pv 2) pe_int (fun _ _ => rfl)) pe_str (nomark _)) (pss_cons (ps_asg (pe_fn G_inner_place (hr.mono (by decide)) pass0 (pa_cons (pv 2) (pa_cons (pe_fld (pv 0) rfl) (pa_cons (pv 1) pa_nil)))) (pg_tup rfl (pgs_cons (pg_name (i := 3) sc_Text_letter.nd rfl (Or.inl rfl)) (pgs_cons (pg_name (i := 1) sc_Text_letter.nd rfl (Or.inl rfl)) pgs_nil)))) (pss_one (ps_set (i := 2) sc_Text_letter.nd rfl (Or.inl rfl) (pe_ix ix_seq (pe_fld (pv 0) rfl) (pv 3) (fun _ _ => rfl)))))) (pss_one (ps_ret (pe_ix ix_seq (pe_ix ix_seq (pv 2) pe_int (fun _ _ => rfl)) (pv 1) (fun _ _ => rfl)))))))
theorem ok_Text_check_part {f : Addr} {fd : FuncData} (T : Tp w K mg) (F : FunD K "check_part" "Text.check_part" (defArgs s_Text_check_part) (defBody s_Text_check_part) (defScope s_Text_check_part) [] [] f fd) (G_NoPart_init : Exi P w K mg base CX0 "NoPart" 1 ["self", "start", "stop"] [] (sp_NoPart_init K)) : FnOk P w K mg base (L2.CX P w) 3 f fd ["self", "start", "stop"] (sp_Text_check_part K) := by
  have := T.c_Text
  have := T.s_SIZES
  refine FunD.ok F sc_Text_check_part (fun vs H Q E h => ?_) (fun cdv A outer s H vs Q E hr h => ⟨t_Text_check_part K (sp_NoPart_init K) E, ?_, pure_Text_check_part T.k_NoPart vs H Q E h⟩)
  · (repeat obtain ⟨_, h⟩ := h)
    subst_vars
    rfl
  · exact (pss_one (ps_if (pt_not (pt_chain3 op_le op_le op_le pe_int (pv 1) (pv 2) (pe_fld (pv 0) rfl))) (pss_one (ps_raiseO G_NoPart_init (hr.mono (by decide)) (takes_of rfl rfl rfl rfl) (pa_cons (pv 1) (pa_cons (pv 2) pa_nil)))) pss_nil))
theorem ok_Text_letters {f : Addr} {fd : FuncData} (T : Tp w K mg) (F : FunD K "letters" "Text.letters" (defArgs s_Text_letters) (defBody s_Text_letters) (defScope s_Text_letters) [] [] f fd) (G_Text_check_part : Me P w K mg base (L2.CX P w) "Text" "check_part" 3 ["self", "start", "stop"] [] (sp_Text_check_part K)) (G_inner_parts : Fn P w K mg base CX0 "inner_parts" 1 ["rule", "lengths", "start", "stop"] [] (sp_inner_parts K)) : FnOk P w K mg base (L2.CX P w) 4 f fd ["self", "start", "stop"] (sp_Text_letters K) := by
  have := T.c_Text
  have := T.s_SIZES
  refine FunD.ok F sc_Text_letters (fun vs H Q E h => ?_) (fun cdv A outer s H vs Q E hr h => ⟨t_Text_letters K (sp_Text_check_part K) (sp_inner_parts K) E, ?_, pure_Text_letters vs H Q E h⟩)
  · (repeat obtain ⟨_, h⟩ := h)
    subst_vars
    rfl
  · exact (pss_cons (ps_expr (pe_meE G_Text_check_part (pv 0) (hr.mono (by decide)) (fun σ => passAt (takes_of rfl rfl rfl rfl) σ) (pa_cons (pv 1) (pa_cons (pv 2) pa_nil)))) (pss_cons (ps_if (pt_cmpR op_gt (pe_op op_sub (pv 2) (pv 1)) (pe_gI T.g_MOST_TOLD) (nomark _)) (pss_one (ps_raiseC T.o_TooLong (takes_of rfl rfl rfl rfl))) pss_nil) (pss_cons (ps_set (i := 3) sc_Text_letters.nd rfl (Or.inl rfl) (pe_lst pa_nil)) (pss_cons (ps_set (i := 4) sc_Text_letters.nd rfl (Or.inl rfl) (pe_lst (pa_cons (pe_tup (pa_cons (pe_op op_sub (pe_callB call_len (by rfl) T.f_len (by decide +kernel) (pa_cons (pe_fld (pv 0) rfl) pa_nil)) pe_int) (pa_cons (pv 1) (pa_cons (pv 2) (pa_cons pe_bl pa_nil))))) pa_nil))) (pss_cons (ps_while (passes_of rfl) (pt_truth (pv 4) (by intro _; rfl)) (pss_cons (ps_asg (pe_bm0 PySem.F.plainAttrs_list PySem.F.slot_list_pop PySem.F.type_list_pop mt_pop (pv 4)) (pg_tup rfl (pgs_cons (pg_name (i := 5) sc_Text_letters.nd rfl (Or.inl rfl)) (pgs_cons (pg_name (i := 6) sc_Text_letters.nd rfl (Or.inl rfl)) (pgs_cons (pg_name (i := 7) sc_Text_letters.nd rfl (Or.inl rfl)) (pgs_cons (pg_name (i := 8) sc_Text_letters.nd rfl (Or.inl rfl)) pgs_nil)))))) (pss_cons (ps_set (i := 9) sc_Text_letters.nd rfl (Or.inl rfl) (pe_ix ix_seq (pe_fld (pv 0) rfl) (pv 5) (fun _ _ => rfl))) (pss_one (ps_if (PW.pt (pw_and (pt_cmpR op_lt (pv 6) (pv 7) (nomark _)) (pw_and1 (pt_cmpR op_eq (pe_ix ix_seq (pv 9) pe_int (fun _ _ => rfl)) pe_str (nomark _))))) (pss_cons (ps_set (i := 10) sc_Text_letters.nd rfl (Or.inl rfl) (pe_slice sl_str (pe_ix ix_seq (pv 9) pe_int (fun _ _ => rfl)) (po_some (pv 6)) (po_some (pv 7)))) (pss_one (ps_expr (pe_bm PySem.F.plainAttrs_list PySem.F.slot_list_append PySem.F.type_list_append mt_append (pv 3) (pa_cons (pe_ifExp (pt_truth (pv 8) (by intro _; rfl)) (pe_rev_str (pv 10)) (pv 10)) pa_nil))))) (pss_one (ps_if (pt_cmpR op_lt (pv 6) (pv 7) (nomark _)) (pss_cons (ps_set (i := 11) sc_Text_letters.nd rfl (Or.inl rfl) (pe_fn G_inner_parts (hr.mono (by decide)) pass0 (pa_cons (pv 9) (pa_cons (pe_fld (pv 0) rfl) (pa_cons (pv 6) (pa_cons (pv 7) pa_nil)))))) (pss_cons (ps_if (pt_not (pt_truth (pv 8) (by intro _; rfl))) (pss_one (ps_expr (pe_bm0 PySem.F.plainAttrs_list PySem.F.slot_list_reverse PySem.F.type_list_reverse mt_reverse (pv 11)))) pss_nil) (pss_one (ps_for (passes_of rfl) rfl (pi_list (pv 11)) (pg_tup rfl (pgs_cons (pg_name (i := 12) sc_Text_letters.nd rfl (Or.inl rfl)) (pgs_cons (pg_name (i := 13) sc_Text_letters.nd rfl (Or.inl rfl)) (pgs_cons (pg_name (i := 14) sc_Text_letters.nd rfl (Or.inl rfl)) (pgs_cons (pg_name (i := 15) sc_Text_letters.nd rfl (Or.inl rfl)) pgs_nil))))) (pss_one (ps_expr (pe_bm PySem.F.plainAttrs_list PySem.F.slot_list_append PySem.F.type_list_append mt_append (pv 4) (pa_cons (pe_tup (pa_cons (pv 12) (pa_cons (pv 13) (pa_cons (pv 14) (pa_cons (pe_cmpR op_ne (pv 15) (pv 8) (nomark _)) pa_nil))))) pa_nil)))))))) pss_nil))))))) (pss_one (ps_ret (pe_joinL pe_str (pv 3)))))))))
theorem ok_law_pool {f : Addr} {fd : FuncData} (T : Tp w K mg) (F : FunD K "_law_pool" "_law_pool" (defArgs s_law_pool) (defBody s_law_pool) (defScope s_law_pool) [] [] f fd) : FnOk P w K mg base CX0 1 f fd ["_law_script"] (sp_law_pool K) := by
  have := T.c_Text
  have := T.s_SIZES
  refine FunD.ok F sc_law_pool (fun vs H Q E h => ?_) (fun cdv A outer s H vs Q E hr h => ⟨t_law_pool K, PSs.nox ?_, pure_law_pool vs H Q E h⟩)
  · (repeat obtain ⟨_, h⟩ := h)
    subst_vars
    rfl
  · exact (pss_one (ps_ret (pe_lst (pa_cons (pe_lc (own := [("_law_cell", 1)]) (g := (gName 1)) (tt := tYes) (by rfl) sc_law_pool.nd (pi_list (pv 0)) (blkOk_by (own := [("_law_cell", 1)]) (N := N_law_pool) (sc := defScope s_law_pool) (by decide +kernel)) (fun _ _ _ _ _ => (pg_name (i := 1) sc_law_pool.nd rfl (Or.inl rfl))) (fun _ _ _ _ _ => pts_nil) (fun _ _ _ _ _ => (pe_ifExp (pt_cmpR op_ge (pv 1) pe_int (nomark _)) (pe_op op_mul pe_int (pv 1)) (pe_op op_sub (pe_op op_mul (pe_un un_neg pe_int) (pv 1)) pe_int)))) (pa_cons pe_int (pa_cons pe_int (pa_cons pe_int pa_nil)))))))
theorem ok_law_take {k : Nat} {sp sp_self : Sp} {f : Addr} {fd : FuncData} (T : Tp w K mg) (F : FunD K "_law_take" "_law_take" (defArgs s_law_take) (defBody s_law_take) (defScope s_law_take) [] [] f fd) (G_law_take : Fn P w K mg base CX0 "_law_take" k ["_law_pool_here", "_law_many"] [] (sp_self)) (len : ∀ vs H Q E, sp vs H Q E → vs.length = 2)
    (pure : ∀ vs H Q E, sp vs H Q E → t_law_take K (sp_self) { nx := fun _ H' => Q .non H', rt := Q } (start N_law_take vs) H) : FnOk P w K mg base CX0 (k + 1) f fd ["_law_pool_here", "_law_many"] sp := by
  refine FunD.ok F sc_law_take len (fun cdv A outer s H vs Q E hr h => ⟨t_law_take K (sp_self), PSs.nox ?_, pure vs H Q E h⟩)
  exact (pss_cons (ps_if (pt_cmpR op_gt (pe_ix ix_seq (pv 0) pe_int (fun _ _ => rfl)) pe_int (nomark _)) (pss_cons (ps_set (i := 2) sc_law_take.nd rfl (Or.inl rfl) (pe_op op_mod (pe_callTy call_int1 (by rfl) T.f_int (by decide +kernel) (pa_cons (pe_ix ix_seq (pv 0) pe_int (fun _ _ => rfl)) pa_nil)) (pv 1))) (pss_cons (ps_asg (pe_op op_fdivW (pe_ix ix_seq (pv 0) pe_int (fun _ _ => rfl)) (pv 1)) (pg_sub (pv 0) pe_int set_list)) (pss_one (ps_ret (pv 2))))) pss_nil) (pss_cons (ps_set (i := 3) sc_law_take.nd rfl (Or.inl rfl) pe_int) (Evl.pss_cut (ps_if (pt_cmpR op_lt (pe_ix ix_seq (pv 0) pe_int (fun _ _ => rfl)) (pe_callB call_len (by rfl) T.f_len (by decide +kernel) (pa_cons (pe_ix ix_seq (pv 0) pe_int (fun _ _ => rfl)) pa_nil)) (nomark _)) (pss_one (ps_set (i := 3) sc_law_take.nd rfl (Or.inl rfl) (pe_ix ix_seq (pe_ix ix_seq (pv 0) pe_int (fun _ _ => rfl)) (pe_ix ix_seq (pv 0) pe_int (fun _ _ => rfl)) (fun _ _ => rfl)))) pss_nil) (pss_cons (ps_asg (pe_op op_add (pe_ix ix_seq (pv 0) pe_int (fun _ _ => rfl)) pe_int) (pg_sub (pv 0) pe_int set_list)) (pss_cons (ps_if (pt_cmpR op_ge (pv 3) (pe_op op_pow pe_int pe_int) (nomark _)) (pss_cons (ps_asg (pe_op op_fdivW (pv 3) pe_int) (pg_sub (pv 0) pe_int set_list)) (pss_one (ps_ret (pe_fn G_law_take (hr.mono (by omega)) pass0 (pa_cons (pv 0) (pa_cons (pv 1) pa_nil)))))) pss_nil) (pss_cons (ps_asg (pe_op op_mod (pe_callTy call_int1 (by rfl) T.f_int (by decide +kernel) (pa_cons (pe_op op_add (pe_op op_add (pe_op op_mul (pe_ix ix_seq (pv 0) pe_int (fun _ _ => rfl)) pe_int) (pe_op op_mul (pv 3) pe_int)) (pe_op op_mul (pe_ix ix_seq (pv 0) pe_int (fun _ _ => rfl)) pe_int)) pa_nil)) pe_int) (pg_sub (pv 0) pe_int set_list)) (pss_cons (ps_set (i := 4) sc_law_take.nd rfl (Or.inl rfl) (pe_op op_mod (pe_callTy call_int1 (by rfl) T.f_int (by decide +kernel) (pa_cons (pe_op op_add (pe_op op_add (pe_op op_mul (pe_ix ix_seq (pv 0) pe_int (fun _ _ => rfl)) (pe_ix ix_seq (pv 0) pe_int (fun _ _ => rfl))) (pe_op op_mul (pe_ix ix_seq (pv 0) pe_int (fun _ _ => rfl)) pe_int)) pe_int) pa_nil)) pe_int)) (pss_one (ps_ret (pe_op op_mod (pe_callTy call_int1 (by rfl) T.f_int (by decide +kernel) (pa_cons (pe_op op_fdivW (pv 4) pe_int) pa_nil)) (pv 1)))))))))))
theorem ok_law_is_integer {f : Addr} {fd : FuncData} (T : Tp w K mg) (F : FunD K "_law_is_integer" "_law_is_integer" (defArgs s_law_is_integer) (defBody s_law_is_integer) (defScope s_law_is_integer) [] [] f fd) : FnOk P w K mg base CX0 1 f fd ["_law_actual"] (sp_law_is_integer) := by
  have := T.c_Text
  have := T.s_SIZES
  refine FunD.ok F sc_law_is_integer (fun vs H Q E h => ?_) (fun cdv A outer s H vs Q E hr h => ⟨t_law_is_integer K, PSs.nox ?_, pure_law_is_integer vs H Q E h⟩)
  · (repeat obtain ⟨_, h⟩ := h)
    subst_vars
    rfl
  · exact (pss_one (ps_ret (pe_and (pe_callB call_isi (by rfl) T.f_isinstance (by decide +kernel) (pa_cons (pv 0) (pa_cons (pe_bltn (by rfl) T.f_int (by decide +kernel) rfl) pa_nil))) (pe_one (pe_not (pe_callB call_isi (by rfl) T.f_isinstance (by decide +kernel) (pa_cons (pv 0) (pa_cons (pe_bltn (by rfl) T.f_bool (by decide +kernel) rfl) pa_nil))))))))
theorem ok_law_same {k : Nat} {sp sp_self : Sp} {f : Addr} {fd : FuncData} (T : Tp w K mg) (F : FunD K "_law_same" "_law_same" (defArgs s_law_same) (defBody s_law_same) (defScope s_law_same) [] [] f fd) (G_law_same : Fn P w K mg base CX0 "_law_same" k ["_law_actual", "_law_due"] [] (sp_self)) (G_law_is_integer : Fn P w K mg base CX0 "_law_is_integer" 1 ["_law_actual"] [] (sp_law_is_integer)) (hk : 1 ≤ k) (len : ∀ vs H Q E, sp vs H Q E → vs.length = 2)
    (pure : ∀ vs H Q E, sp vs H Q E → t_law_same K (sp_self) (sp_law_is_integer) { nx := fun _ H' => Q .non H', rt := Q } (start N_law_same vs) H) : FnOk P w K mg base CX0 (k + 1) f fd ["_law_actual", "_law_due"] sp := by
  refine FunD.ok F sc_law_same len (fun cdv A outer s H vs Q E hr h => ⟨t_law_same K (sp_self) (sp_law_is_integer), PSs.nox ?_, pure vs H Q E h⟩)
  exact (pss_cons (ps_if (pt_val (pe_callB call_isi (by rfl) T.f_isinstance (by decide +kernel) (pa_cons (pv 1) (pa_cons (pe_bltn (by rfl) T.f_tuple (by decide +kernel) rfl) pa_nil)))) (pss_cons (ps_if (PW.pt (pw_or (pt_not (pt_val (pe_callB call_isi (by rfl) T.f_isinstance (by decide +kernel) (pa_cons (pv 0) (pa_cons (pe_bltn (by rfl) T.f_tuple (by decide +kernel) rfl) pa_nil))))) (pw_or1 (pt_cmpR op_ne (pe_callB call_len (by rfl) T.f_len (by decide +kernel) (pa_cons (pv 0) pa_nil)) (pe_callB call_len (by rfl) T.f_len (by decide +kernel) (pa_cons (pv 1) pa_nil)) (nomark _))))) (pss_one (ps_ret pe_bl)) pss_nil) (pss_one (ps_ret (pe_callB (cr_all rfl) (by rfl) T.f_all (by decide +kernel) (pa_cons (pe_lc (own := [("_law_k", 2)]) (g := (gName 2)) (tt := tYes) (by rfl) sc_law_same.nd (pi_range1 (by rfl) T.f_range (pa_cons (pe_callB call_len (by rfl) T.f_len (by decide +kernel) (pa_cons (pv 1) pa_nil)) pa_nil)) (blkOk_by (own := [("_law_k", 2)]) (N := N_law_same) (sc := defScope s_law_same) (by decide +kernel)) (fun _ _ _ _ _ => (pg_name (i := 2) sc_law_same.nd rfl (Or.inl rfl))) (fun _ _ _ _ _ => pts_nil) (fun _ _ _ _ _ => (pe_fn G_law_same (hr.mono (by omega)) pass0 (pa_cons (pe_ix ix_seq (pv 0) (pv 2) (fun _ _ => rfl)) (pa_cons (pe_ix ix_seq (pv 1) (pv 2) (fun _ _ => rfl)) pa_nil))))) pa_nil))))) pss_nil) (pss_cons (ps_if (pt_val (pe_callB call_isi (by rfl) T.f_isinstance (by decide +kernel) (pa_cons (pv 1) (pa_cons (pe_bltn (by rfl) T.f_list (by decide +kernel) rfl) pa_nil)))) (pss_cons (ps_if (PW.pt (pw_or (pt_not (pt_val (pe_callB call_isi (by rfl) T.f_isinstance (by decide +kernel) (pa_cons (pv 0) (pa_cons (pe_bltn (by rfl) T.f_list (by decide +kernel) rfl) pa_nil))))) (pw_or1 (pt_cmpR op_ne (pe_callB call_len (by rfl) T.f_len (by decide +kernel) (pa_cons (pv 0) pa_nil)) (pe_callB call_len (by rfl) T.f_len (by decide +kernel) (pa_cons (pv 1) pa_nil)) (nomark _))))) (pss_one (ps_ret pe_bl)) pss_nil) (pss_one (ps_ret (pe_callB (cr_all rfl) (by rfl) T.f_all (by decide +kernel) (pa_cons (pe_lc (own := [("_law_k", 2)]) (g := (gName 2)) (tt := tYes) (by rfl) sc_law_same.nd (pi_range1 (by rfl) T.f_range (pa_cons (pe_callB call_len (by rfl) T.f_len (by decide +kernel) (pa_cons (pv 1) pa_nil)) pa_nil)) (blkOk_by (own := [("_law_k", 2)]) (N := N_law_same) (sc := defScope s_law_same) (by decide +kernel)) (fun _ _ _ _ _ => (pg_name (i := 2) sc_law_same.nd rfl (Or.inl rfl))) (fun _ _ _ _ _ => pts_nil) (fun _ _ _ _ _ => (pe_fn G_law_same (hr.mono (by omega)) pass0 (pa_cons (pe_ix ix_seq (pv 0) (pv 2) (fun _ _ => rfl)) (pa_cons (pe_ix ix_seq (pv 1) (pv 2) (fun _ _ => rfl)) pa_nil))))) pa_nil))))) pss_nil) (pss_cons (ps_if (pt_cmpR op_isN (pv 1) pe_non (nomark _)) (pss_one (ps_ret (pe_cmpR op_isN (pv 0) pe_non (nomark _)))) pss_nil) (pss_cons (ps_if (pt_val (pe_callB call_isi (by rfl) T.f_isinstance (by decide +kernel) (pa_cons (pv 1) (pa_cons (pe_bltn (by rfl) T.f_bool (by decide +kernel) rfl) pa_nil)))) (pss_one (ps_ret (pe_and (pe_callB call_isi (by rfl) T.f_isinstance (by decide +kernel) (pa_cons (pv 0) (pa_cons (pe_bltn (by rfl) T.f_bool (by decide +kernel) rfl) pa_nil))) (pe_one (pe_cmpR op_eq (pv 0) (pv 1) (nomark _)))))) pss_nil) (pss_cons (ps_if (pt_val (pe_callB call_isi (by rfl) T.f_isinstance (by decide +kernel) (pa_cons (pv 1) (pa_cons (pe_bltn (by rfl) T.f_str (by decide +kernel) rfl) pa_nil)))) (pss_one (ps_ret (pe_and (pe_callB call_isi (by rfl) T.f_isinstance (by decide +kernel) (pa_cons (pv 0) (pa_cons (pe_bltn (by rfl) T.f_str (by decide +kernel) rfl) pa_nil))) (pe_one (pe_cmpR op_eq (pv 0) (pv 1) (nomark _)))))) pss_nil) (pss_one (ps_ret (pe_and (pe_fn G_law_is_integer (hr.mono (by omega)) pass0 (pa_cons (pv 0) pa_nil)) (pe_one (pe_cmpR op_eq (pv 0) (pv 1) (nomark _)))))))))))
theorem ok_law_written {f : Addr} {fd : FuncData} (T : Tp w K mg) (F : FunD K "_law_written" "_law_written" (defArgs s_law_written) (defBody s_law_written) (defScope s_law_written) [] [] f fd) (G_law_take : Fn P w K mg base CX0 "_law_take" 2 ["_law_pool_here", "_law_many"] [] (sp_law_take K)) : FnOk P w K mg base CX0 3 f fd ["_law_pool_here"] (sp_law_written K) := by
  have := T.c_Text
  have := T.s_SIZES
  refine FunD.ok F sc_law_written (fun vs H Q E h => ?_) (fun cdv A outer s H vs Q E hr h => ⟨t_law_written K (sp_law_take K), PSs.nox ?_, pure_law_written vs H Q E h⟩)
  · (repeat obtain ⟨_, h⟩ := h)
    subst_vars
    rfl
  · exact (pss_cons (ps_set (i := 1) sc_law_written.nd rfl (Or.inl rfl) pe_str) (pss_cons (ps_set (i := 2) sc_law_written.nd rfl (Or.inl rfl) (pe_fn G_law_take (hr.mono (by decide)) pass0 (pa_cons (pv 0) (pa_cons pe_int pa_nil)))) (pss_cons (ps_set (i := 3) sc_law_written.nd rfl (Or.inl rfl) (pe_fn G_law_take (hr.mono (by decide)) pass0 (pa_cons (pv 0) (pa_cons pe_int pa_nil)))) (pss_cons (ps_if (pt_cmpR op_eq (pv 2) pe_int (nomark _)) (pss_one (ps_set (i := 3) sc_law_written.nd rfl (Or.inl rfl) (pe_fn G_law_take (hr.mono (by decide)) pass0 (pa_cons (pv 0) (pa_cons pe_int pa_nil))))) pss_nil) (pss_cons (ps_set (i := 4) sc_law_written.nd rfl (Or.inl rfl) (pe_lst pa_nil)) (pss_cons (ps_for PassesOwn.never rfl (pi_range1 (by rfl) T.f_range (pa_cons (pv 3) pa_nil)) (pg_name (i := 5) sc_law_written.nd rfl (Or.inl rfl)) (pss_one (ps_if (pt_cmpR op_lt (pv 2) pe_int (nomark _)) (pss_one (ps_expr (pe_bm PySem.F.plainAttrs_list PySem.F.slot_list_append PySem.F.type_list_append mt_append (pv 4) (pa_cons (pe_ix ix_seq (pv 1) (pe_fn G_law_take (hr.mono (by decide)) pass0 (pa_cons (pv 0) (pa_cons pe_int pa_nil))) (fun _ _ => rfl)) pa_nil)))) (pss_one (ps_expr (pe_bm PySem.F.plainAttrs_list PySem.F.slot_list_append PySem.F.type_list_append mt_append (pv 4) (pa_cons (pe_ix ix_seq pe_str (pe_fn G_law_take (hr.mono (by decide)) pass0 (pa_cons (pv 0) (pa_cons pe_int pa_nil))) (fun _ _ => rfl)) pa_nil))))))) (pss_one (ps_ret (pe_joinL pe_str (pv 4))))))))))
theorem ok_law_number {f : Addr} {fd : FuncData} (T : Tp w K mg) (F : FunD K "_law_number" "_law_number" (defArgs s_law_number) (defBody s_law_number) (defScope s_law_number) [] [] f fd) (G_law_take : Fn P w K mg base CX0 "_law_take" 2 ["_law_pool_here", "_law_many"] [] (sp_law_take K)) : FnOk P w K mg base CX0 3 f fd ["_law_pool_here", "_law_many"] (sp_law_number K) := by
  have := T.c_Text
  have := T.s_SIZES
  refine FunD.ok F sc_law_number (fun vs H Q E h => ?_) (fun cdv A outer s H vs Q E hr h => ⟨t_law_number K (sp_law_take K), PSs.nox ?_, pure_law_number vs H Q E h⟩)
  · (repeat obtain ⟨_, h⟩ := h)
    subst_vars
    rfl
  · exact (pss_cons (ps_if (pt_cmpR op_gt (pe_fn G_law_take (hr.mono (by decide)) pass0 (pa_cons (pv 0) (pa_cons pe_int pa_nil))) pe_int (nomark _)) (pss_one (ps_ret (pe_op op_sub (pv 1) pe_int))) pss_nil) (pss_one (ps_ret (pe_fn G_law_take (hr.mono (by decide)) pass0 (pa_cons (pv 0) (pa_cons (pv 1) pa_nil))))))
theorem ok_law_next {f : Addr} {fd : FuncData} (T : Tp w K mg) (F : FunD K "_law_next" "_law_next" (defArgs s_law_next) (defBody s_law_next) (defScope s_law_next) [] [] f fd) (G_law_take : Fn P w K mg base CX0 "_law_take" 2 ["_law_pool_here", "_law_many"] [] (sp_law_take K)) (G_law_written : Fn P w K mg base CX0 "_law_written" 3 ["_law_pool_here"] [] (sp_law_written K)) (G_law_number : Fn P w K mg base CX0 "_law_number" 3 ["_law_pool_here", "_law_many"] [] (sp_law_number K)) : FnOk P w K mg base CX0 4 f fd ["_law_pool_here", "_law_texts", "_law_most"] (sp_law_next K) := by
  have := T.c_Text
  have := T.s_SIZES
  refine FunD.ok F sc_law_next (fun vs H Q E h => ?_) (fun cdv A outer s H vs Q E hr h => ⟨t_law_next K (sp_law_take K) (sp_law_written K) (sp_law_number K), PSs.nox ?_, pure_law_next vs H Q E h⟩)
  · (repeat obtain ⟨_, h⟩ := h)
    subst_vars
    rfl
  · exact (pss_cons (ps_set (i := 3) sc_law_next.nd rfl (Or.inl rfl) (pe_fn G_law_take (hr.mono (by decide)) pass0 (pa_cons (pv 0) (pa_cons pe_int pa_nil)))) (pss_cons (ps_if (PW.pt (pw_or (pt_cmpR op_eq (pv 3) pe_int (nomark _)) (pw_or1 (pt_not (pt_truth (pv 1) (by intro _; rfl)))))) (pss_one (ps_ret (pe_tup (pa_cons pe_str (pa_cons (pe_fn G_law_written (hr.mono (by decide)) pass0 (pa_cons (pv 0) pa_nil)) pa_nil))))) pss_nil) (pss_cons (ps_set (i := 4) sc_law_next.nd rfl (Or.inl rfl) (pe_fn G_law_number (hr.mono (by decide)) pass0 (pa_cons (pv 0) (pa_cons (pe_callB call_len (by rfl) T.f_len (by decide +kernel) (pa_cons (pv 1) pa_nil)) pa_nil)))) (pss_cons (ps_set (i := 5) sc_law_next.nd rfl (Or.inl rfl) (pe_callB call_len (by rfl) T.f_len (by decide +kernel) (pa_cons (pe_ix ix_seq (pv 1) (pv 4) (fun _ _ => rfl)) pa_nil))) (Evl.pss_cut (ps_if (pt_cmpR op_lt (pv 3) pe_int (nomark _)) (pss_cons (ps_set (i := 6) sc_law_next.nd rfl (Or.inl rfl) (pe_fn G_law_take (hr.mono (by decide)) pass0 (pa_cons (pv 0) (pa_cons (pe_callB call_len (by rfl) T.f_len (by decide +kernel) (pa_cons (pv 1) pa_nil)) pa_nil)))) (pss_cons (ps_if (pt_cmpR op_eq (pe_fn G_law_take (hr.mono (by decide)) pass0 (pa_cons (pv 0) (pa_cons pe_int pa_nil))) pe_int (nomark _)) (pss_cons (ps_par (i := 4) (j := 6) (by rfl) sc_law_next.nd rfl rfl (by decide) rfl rfl (pa_cons (pv 6) (pa_cons (pv 4) pa_nil)) (by rfl)) (pss_one (ps_set (i := 5) sc_law_next.nd rfl (Or.inl rfl) (pe_callB call_len (by rfl) T.f_len (by decide +kernel) (pa_cons (pe_ix ix_seq (pv 1) (pv 4) (fun _ _ => rfl)) pa_nil))))) pss_nil) (pss_one (ps_if (pt_cmpR op_le (pe_op op_add (pe_callB call_len (by rfl) T.f_len (by decide +kernel) (pa_cons (pe_ix ix_seq (pv 1) (pv 4) (fun _ _ => rfl)) pa_nil)) (pe_callB call_len (by rfl) T.f_len (by decide +kernel) (pa_cons (pe_ix ix_seq (pv 1) (pv 6) (fun _ _ => rfl)) pa_nil))) (pv 2) (nomark _)) (pss_one (ps_ret (pe_tup (pa_cons pe_str (pa_cons (pv 4) (pa_cons (pv 6) pa_nil)))))) pss_nil)))) pss_nil) (Evl.pss_cut (ps_if (pt_cmpR op_eq (pv 3) pe_int (nomark _)) (pss_cons (ps_set (i := 7) sc_law_next.nd rfl (Or.inl rfl) (pe_fn G_law_take (hr.mono (by decide)) pass0 (pa_cons (pv 0) (pa_cons pe_int pa_nil)))) (pss_cons (ps_if (pt_cmpR op_eq (pv 5) pe_int (nomark _)) (pss_one (ps_set (i := 7) sc_law_next.nd rfl (Or.inl rfl) (pe_ix ix_seq (pe_tup (pa_cons pe_int (pa_cons pe_int (pa_cons pe_int (pa_cons (pe_op op_pow pe_int pe_int) pa_nil))))) (pe_fn G_law_take (hr.mono (by decide)) pass0 (pa_cons (pv 0) (pa_cons pe_int pa_nil))) (fun _ _ => rfl)))) pss_nil) (pss_one (ps_if (pt_cmpR op_le (pe_op op_mul (pv 5) (pv 7)) (pv 2) (nomark _)) (pss_one (ps_ret (pe_tup (pa_cons pe_str (pa_cons (pv 4) (pa_cons (pv 7) pa_nil)))))) pss_nil)))) pss_nil) (pss_cons (ps_if (pt_cmpR op_lt (pv 3) pe_int (nomark _)) (pss_cons (ps_set (i := 8) sc_law_next.nd rfl (Or.inl rfl) (pe_fn G_law_take (hr.mono (by decide)) pass0 (pa_cons (pv 0) (pa_cons (pe_op op_add (pv 5) pe_int) pa_nil)))) (pss_one (ps_ret (pe_tup (pa_cons pe_str (pa_cons (pv 4) (pa_cons (pv 8) (pa_cons (pe_op op_add (pv 8) (pe_fn G_law_take (hr.mono (by decide)) pass0 (pa_cons (pv 0) (pa_cons (pe_op op_add (pe_op op_sub (pv 5) (pv 8)) pe_int) pa_nil)))) pa_nil)))))))) pss_nil) (pss_one (ps_ret (pe_tup (pa_cons pe_str (pa_cons (pv 4) pa_nil))))))))))))
theorem ok_law_made {f : Addr} {fd : FuncData} (T : Tp w K mg) (F : FunD K "_law_made" "_law_made" (defArgs s_law_made) (defBody s_law_made) (defScope s_law_made) [] [] f fd) : FnOk P w K mg base CX0 1 f fd ["_law_texts", "_law_rule"] (sp_law_made K) := by
  have := T.c_Text
  have := T.s_SIZES
  refine FunD.ok F sc_law_made (fun vs H Q E h => ?_) (fun cdv A outer s H vs Q E hr h => ⟨t_law_made K, PSs.nox ?_, pure_law_made vs H Q E h⟩)
  · (repeat obtain ⟨_, h⟩ := h)
    subst_vars
    rfl
  · exact (pss_cons (ps_if (pt_cmpR op_eq (pe_ix ix_seq (pv 1) pe_int (fun _ _ => rfl)) pe_str (nomark _)) (pss_one (ps_ret (pe_ix ix_seq (pv 1) pe_int (fun _ _ => rfl)))) pss_nil) (pss_cons (ps_if (pt_cmpR op_eq (pe_ix ix_seq (pv 1) pe_int (fun _ _ => rfl)) pe_str (nomark _)) (pss_one (ps_ret (pe_op op_add_str (pe_ix ix_seq (pv 0) (pe_ix ix_seq (pv 1) pe_int (fun _ _ => rfl)) (fun _ _ => rfl)) (pe_ix ix_seq (pv 0) (pe_ix ix_seq (pv 1) pe_int (fun _ _ => rfl)) (fun _ _ => rfl))))) pss_nil) (pss_cons (ps_if (pt_cmpR op_eq (pe_ix ix_seq (pv 1) pe_int (fun _ _ => rfl)) pe_str (nomark _)) (pss_cons (ps_if (pt_cmpR op_eq (pe_ix ix_seq (pv 0) (pe_ix ix_seq (pv 1) pe_int (fun _ _ => rfl)) (fun _ _ => rfl)) pe_str (nomark _)) (pss_one (ps_ret pe_str)) pss_nil) (pss_one (ps_ret (pe_op op_repS (pe_ix ix_seq (pv 0) (pe_ix ix_seq (pv 1) pe_int (fun _ _ => rfl)) (fun _ _ => rfl)) (pe_ix ix_seq (pv 1) pe_int (fun _ _ => rfl)))))) pss_nil) (pss_cons (ps_if (pt_cmpR op_eq (pe_ix ix_seq (pv 1) pe_int (fun _ _ => rfl)) pe_str (nomark _)) (pss_one (ps_ret (pe_slice sl_str (pe_ix ix_seq (pv 0) (pe_ix ix_seq (pv 1) pe_int (fun _ _ => rfl)) (fun _ _ => rfl)) (po_some (pe_ix ix_seq (pv 1) pe_int (fun _ _ => rfl))) (po_some (pe_ix ix_seq (pv 1) pe_int (fun _ _ => rfl)))))) pss_nil) (pss_one (ps_ret (pe_rev_str (pe_ix ix_seq (pv 0) (pe_ix ix_seq (pv 1) pe_int (fun _ _ => rfl)) (fun _ _ => rfl)))))))))
theorem ok_law_rules {f : Addr} {fd : FuncData} (T : Tp w K mg) (F : FunD K "_law_rules" "_law_rules" (defArgs s_law_rules) (defBody s_law_rules) (defScope s_law_rules) [] [] f fd) (G_law_take : Fn P w K mg base CX0 "_law_take" 2 ["_law_pool_here", "_law_many"] [] (sp_law_take K)) (G_law_next : Fn P w K mg base CX0 "_law_next" 4 ["_law_pool_here", "_law_texts", "_law_most"] [] (sp_law_next K)) (G_law_made : Fn P w K mg base CX0 "_law_made" 1 ["_law_texts", "_law_rule"] [] (sp_law_made K)) : FnOk P w K mg base CX0 5 f fd ["_law_pool_here", "_law_most"] (sp_law_rules K) := by
  have := T.c_Text
  have := T.s_SIZES
  refine FunD.ok F sc_law_rules (fun vs H Q E h => ?_) (fun cdv A outer s H vs Q E hr h => ⟨t_law_rules K (sp_law_take K) (sp_law_next K) (sp_law_made K), PSs.nox ?_, pure_law_rules vs H Q E h⟩)
  · (repeat obtain ⟨_, h⟩ := h)
    subst_vars
    rfl
  · exact (pss_cons (ps_set (i := 2) sc_law_rules.nd rfl (Or.inl rfl) (pe_lst pa_nil)) (pss_cons (ps_set (i := 3) sc_law_rules.nd rfl (Or.inl rfl) (pe_lst pa_nil)) (pss_cons (ps_for PassesOwn.never rfl (pi_range1 (by rfl) T.f_range (pa_cons (pe_op op_add pe_int (pe_fn G_law_take (hr.mono (by decide)) pass0 (pa_cons (pv 0) (pa_cons pe_int pa_nil)))) pa_nil)) (pg_name (i := 4) sc_law_rules.nd rfl (Or.inl rfl)) (pss_cons (ps_set (i := 5) sc_law_rules.nd rfl (Or.inl rfl) (pe_fn G_law_next (hr.mono (by decide)) pass0 (pa_cons (pv 0) (pa_cons (pv 3) (pa_cons (pv 1) pa_nil))))) (pss_cons (ps_expr (pe_bm PySem.F.plainAttrs_list PySem.F.slot_list_append PySem.F.type_list_append mt_append (pv 2) (pa_cons (pv 5) pa_nil))) (pss_one (ps_expr (pe_bm PySem.F.plainAttrs_list PySem.F.slot_list_append PySem.F.type_list_append mt_append (pv 3) (pa_cons (pe_fn G_law_made (hr.mono (by decide)) pass0 (pa_cons (pv 3) (pa_cons (pv 5) pa_nil))) pa_nil))))))) (pss_one (ps_ret (pe_tup (pa_cons (pv 2) (pa_cons (pv 3) pa_nil))))))))
theorem ok_law_grown {f : Addr} {fd : FuncData} (T : Tp w K mg) (F : FunD K "_law_grown" "_law_grown" (defArgs s_law_grown) (defBody s_law_grown) (defScope s_law_grown) [] [] f fd) : FnOk P w K mg base CX0 1 f fd ["_law_rules_here", "_law_texts", "_law_cut", "_law_times", "_law_first"] (sp_law_grown K) := by
  have := T.c_Text
  have := T.s_SIZES
  refine FunD.ok F sc_law_grown (fun vs H Q E h => ?_) (fun cdv A outer s H vs Q E hr h => ⟨t_law_grown K, PSs.nox ?_, pure_law_grown vs H Q E h⟩)
  · (repeat obtain ⟨_, h⟩ := h)
    subst_vars
    rfl
  · exact (pss_cons (ps_set (i := 5) sc_law_grown.nd rfl (Or.inl rfl) (pe_op op_sub (pe_callB call_len (by rfl) T.f_len (by decide +kernel) (pa_cons (pv 0) pa_nil)) pe_int)) (pss_cons (ps_set (i := 6) sc_law_grown.nd rfl (Or.inl rfl) (pe_callB call_len (by rfl) T.f_len (by decide +kernel) (pa_cons (pe_ix ix_seq (pv 1) (pe_un un_neg pe_int) (fun _ _ => rfl)) pa_nil))) (pss_cons (ps_set (i := 7) sc_law_grown.nd rfl (Or.inl rfl) (pe_op op_sub (pv 3) (pe_op op_mul (pe_op op_fdivW (pv 3) (pv 4)) (pv 4)))) (pss_cons (ps_set (i := 0) sc_law_grown.nd rfl (Or.inl rfl) (pe_op op_cat (pv 0) (pe_lst (pa_cons (pe_tup (pa_cons pe_str (pa_cons (pv 5) (pa_cons pe_int (pa_cons (pv 2) pa_nil))))) (pa_cons (pe_tup (pa_cons pe_str (pa_cons (pv 5) (pa_cons (pv 2) (pa_cons (pv 6) pa_nil))))) (pa_cons (pe_tup (pa_cons pe_str (pa_cons (pe_op op_add (pv 5) pe_int) pa_nil))) (pa_cons (pe_tup (pa_cons pe_str (pa_cons (pe_op op_add (pv 5) pe_int) pa_nil))) pa_nil))))))) (pss_cons (ps_set (i := 0) sc_law_grown.nd rfl (Or.inl rfl) (pe_op op_cat (pv 0) (pe_lst (pa_cons (pe_tup (pa_cons pe_str (pa_cons (pe_op op_add (pv 5) pe_int) (pa_cons (pe_op op_add (pv 5) pe_int) pa_nil)))) (pa_cons (pe_tup (pa_cons pe_str (pa_cons (pe_op op_add (pv 5) pe_int) pa_nil))) (pa_cons (pe_tup (pa_cons pe_str (pa_cons (pe_op op_add (pv 5) pe_int) (pa_cons (pv 4) pa_nil)))) pa_nil)))))) (pss_cons (ps_set (i := 0) sc_law_grown.nd rfl (Or.inl rfl) (pe_op op_cat (pv 0) (pe_lst (pa_cons (pe_tup (pa_cons pe_str (pa_cons (pe_op op_add (pv 5) pe_int) (pa_cons (pe_op op_fdivW (pv 3) (pv 4)) pa_nil)))) (pa_cons (pe_tup (pa_cons pe_str (pa_cons (pe_op op_add (pv 5) pe_int) (pa_cons (pv 7) pa_nil)))) (pa_cons (pe_tup (pa_cons pe_str (pa_cons (pe_op op_add (pv 5) pe_int) (pa_cons (pe_op op_add (pv 5) pe_int) pa_nil)))) pa_nil)))))) (pss_one (ps_ret (pv 0)))))))))
theorem ok_law_shifted {f : Addr} {fd : FuncData} (T : Tp w K mg) (F : FunD K "_law_shifted" "_law_shifted" (defArgs s_law_shifted) (defBody s_law_shifted) (defScope s_law_shifted) [] [] f fd) : FnOk P w K mg base CX0 1 f fd ["_law_rules_here", "_law_size", "_law_cut", "_law_times"] (sp_law_shifted K) := by
  have := T.c_Text
  have := T.s_SIZES
  refine FunD.ok F sc_law_shifted (fun vs H Q E h => ?_) (fun cdv A outer s H vs Q E hr h => ⟨t_law_shifted K, PSs.nox ?_, pure_law_shifted vs H Q E h⟩)
  · (repeat obtain ⟨_, h⟩ := h)
    subst_vars
    rfl
  · exact (pss_cons (ps_set (i := 4) sc_law_shifted.nd rfl (Or.inl rfl) (pe_op op_sub (pe_callB call_len (by rfl) T.f_len (by decide +kernel) (pa_cons (pv 0) pa_nil)) pe_int)) (pss_cons (ps_set (i := 0) sc_law_shifted.nd rfl (Or.inl rfl) (pe_op op_cat (pv 0) (pe_lst (pa_cons (pe_tup (pa_cons pe_str (pa_cons (pv 4) (pa_cons pe_int (pa_cons (pv 2) pa_nil))))) (pa_cons (pe_tup (pa_cons pe_str (pa_cons (pv 4) (pa_cons (pv 2) (pa_cons (pv 1) pa_nil))))) (pa_cons (pe_tup (pa_cons pe_str (pa_cons (pe_op op_add (pv 4) pe_int) (pa_cons (pe_op op_add (pv 4) pe_int) pa_nil)))) pa_nil)))))) (pss_cons (ps_set (i := 0) sc_law_shifted.nd rfl (Or.inl rfl) (pe_op op_cat (pv 0) (pe_lst (pa_cons (pe_tup (pa_cons pe_str (pa_cons (pe_op op_add (pv 4) pe_int) (pa_cons (pe_op op_sub (pv 3) pe_int) pa_nil)))) (pa_cons (pe_tup (pa_cons pe_str (pa_cons (pe_op op_add (pv 4) pe_int) (pa_cons (pe_op op_add (pv 4) pe_int) pa_nil)))) (pa_cons (pe_tup (pa_cons pe_str (pa_cons (pe_op op_add (pv 4) pe_int) (pa_cons (pe_op op_add (pv 4) pe_int) pa_nil)))) pa_nil)))))) (pss_one (ps_ret (pv 0))))))
theorem ok_law {f : Addr} {fd : FuncData} (T : Tp w K mg) (F : FunD K "law" "law" (defArgs s_law) (defBody s_law) (defScope s_law) [] [] f fd) (G_law_pool : Fn P w K mg base CX0 "_law_pool" 1 ["_law_script"] [] (sp_law_pool K)) (G_law_rules : Fn P w K mg base CX0 "_law_rules" 5 ["_law_pool_here", "_law_most"] [] (sp_law_rules K)) (G_law_take : Fn P w K mg base CX0 "_law_take" 2 ["_law_pool_here", "_law_many"] [] (sp_law_take K)) (G_Text_init : Mkr P w K mg base CX0 "Text" 4 ["self", "rules"] [] (sp_Text_init K)) (G_law_shifted : Fn P w K mg base CX0 "_law_shifted" 1 ["_law_rules_here", "_law_size", "_law_cut", "_law_times"] [] (sp_law_shifted K)) (G_law_grown : Fn P w K mg base CX0 "_law_grown" 1 ["_law_rules_here", "_law_texts", "_law_cut", "_law_times", "_law_first"] [] (sp_law_grown K)) (G_law_same : Fn P w K mg base CX0 "_law_same" 5 ["_law_actual", "_law_due"] [] (sp_law_same K 3)) (G_Text_letter : Me P w K mg base (L2.CX P w) "Text" "letter" 3 ["self", "place"] [] (sp_Text_letter K)) (G_Text_letters : Me P w K mg base (L2.CX P w) "Text" "letters" 4 ["self", "start", "stop"] [] (sp_Text_letters K)) : FnOk P w K mg base CX0 8 f fd ["_law_script"] (sp_law K) := by
  have := T.c_Text
  have := T.s_SIZES
  refine FunD.ok F sc_law (fun vs H Q E h => ?_) (fun cdv A outer s H vs Q E hr h => ⟨t_law K (sp_law_pool K) (sp_law_rules K) (sp_law_take K) (sp_Text_init K) (sp_law_shifted K) (sp_law_grown K) (sp_law_same K 3) (sp_Text_letter K) (sp_Text_letters K), PSs.nox ?_, pure_law vs H Q E h⟩)
  · (repeat obtain ⟨_, h⟩ := h)
    subst_vars
    rfl
  · exact (pss_cons (ps_set (i := 1) sc_law.nd rfl (Or.inl rfl) (pe_fn G_law_pool (hr.mono (by decide)) pass0 (pa_cons (pv 0) pa_nil))) (pss_cons (ps_asg (pe_fn G_law_rules (hr.mono (by decide)) pass0 (pa_cons (pv 1) (pa_cons pe_int pa_nil))) (pg_tup rfl (pgs_cons (pg_name (i := 2) sc_law.nd rfl (Or.inl rfl)) (pgs_cons (pg_name (i := 3) sc_law.nd rfl (Or.inl rfl)) pgs_nil)))) (pss_cons (ps_set (i := 4) sc_law.nd rfl (Or.inl rfl) (pe_callB call_len (by rfl) T.f_len (by decide +kernel) (pa_cons (pe_ix ix_seq (pv 3) (pe_un un_neg pe_int) (fun _ _ => rfl)) pa_nil))) (pss_cons (ps_set (i := 5) sc_law.nd rfl (Or.inl rfl) (pe_fn G_law_take (hr.mono (by decide)) pass0 (pa_cons (pv 1) (pa_cons (pe_op op_add (pv 4) pe_int) pa_nil)))) (pss_cons (ps_set (i := 6) sc_law.nd rfl (Or.inl rfl) (pe_op op_add pe_int (pe_fn G_law_take (hr.mono (by decide)) pass0 (pa_cons (pv 1) (pa_cons (pe_op op_fdivW (pe_op op_pow pe_int pe_int) (pe_callB (call_max2 rfl) (by rfl) T.f_max (by decide +kernel) (pa_cons pe_int (pa_cons (pv 4) pa_nil)))) pa_nil))))) (Evl.pss_cut (ps_if (pt_cmpR op_eq (pe_fn G_law_take (hr.mono (by decide)) pass0 (pa_cons (pv 1) (pa_cons pe_int pa_nil))) pe_int (nomark _)) (pss_one (ps_set (i := 6) sc_law.nd rfl (Or.inl rfl) (pe_op op_add pe_int (pe_fn G_law_take (hr.mono (by decide)) pass0 (pa_cons (pv 1) (pa_cons pe_int pa_nil)))))) pss_nil) (pss_cons (ps_set (i := 7) sc_law.nd rfl (Or.inl rfl) (pe_op op_add pe_int (pe_fn G_law_take (hr.mono (by decide)) pass0 (pa_cons (pv 1) (pa_cons (pe_callB (call_min2 rfl) (by rfl) T.f_min (by decide +kernel) (pa_cons (pv 6) (pa_cons (pe_op op_pow pe_int pe_int) pa_nil))) pa_nil))))) (pss_cons (ps_set (i := 8) sc_law.nd rfl (Or.inl rfl) (pe_mkr G_Text_init (hr.mono (by decide)) pass0 (pa_cons (pe_op op_cat (pv 2) (pe_lst (pa_cons (pe_tup (pa_cons pe_str (pa_cons (pe_op op_sub (pe_callB call_len (by rfl) T.f_len (by decide +kernel) (pa_cons (pv 2) pa_nil)) pe_int) (pa_cons (pv 6) pa_nil)))) pa_nil))) pa_nil))) (pss_cons (ps_set (i := 9) sc_law.nd rfl (Or.inl rfl) (pe_lst (pa_cons (pe_mkr G_Text_init (hr.mono (by decide)) pass0 (pa_cons (pe_fn G_law_grown (hr.mono (by decide)) pass0 (pa_cons (pv 2) (pa_cons (pv 3) (pa_cons (pv 5) (pa_cons (pv 6) (pa_cons (pv 7) pa_nil)))))) pa_nil)) (pa_cons (pe_mkr G_Text_init (hr.mono (by decide)) pass0 (pa_cons (pe_fn G_law_shifted (hr.mono (by decide)) pass0 (pa_cons (pv 2) (pa_cons (pv 4) (pa_cons (pv 5) (pa_cons (pv 6) pa_nil))))) pa_nil)) pa_nil)))) (pss_cons (ps_for PassesOwn.never rfl (pi_list (pv 9)) (pg_name (i := 10) sc_law.nd rfl (Or.inl rfl)) (pss_cons (ps_if (PW.pt (pw_or (pt_not (pt_truth (pe_fn G_law_same (hr.mono (by decide)) pass0 (pa_cons (pe_fld (pv 10) rfl) (pa_cons (pe_op op_mul (pv 4) (pv 6)) pa_nil))) (by intro _; rfl))) (pw_or1 (pt_not (pt_truth (pe_fn G_law_same (hr.mono (by decide)) pass0 (pa_cons (pe_fld (pv 8) rfl) (pa_cons (pe_op op_mul (pv 4) (pv 6)) pa_nil))) (by intro _; rfl)))))) (pss_one (ps_ret pe_bl)) pss_nil) (pss_one (ps_for PassesOwn.never rfl (pi_range1 (by rfl) T.f_range (pa_cons pe_int pa_nil)) (pg_name (i := 11) sc_law.nd rfl (Or.inl rfl)) (pss_one (ps_if (pt_cmpR op_gt (pv 4) pe_int (nomark _)) (pss_cons (ps_set (i := 12) sc_law.nd rfl (Or.inl rfl) (pe_ix ix_seq (pe_tup (pa_cons (pe_fn G_law_take (hr.mono (by decide)) pass0 (pa_cons (pv 1) (pa_cons (pe_op op_mul (pv 4) (pv 6)) pa_nil))) (pa_cons (pe_op op_sub (pe_op op_sub (pe_op op_mul (pv 4) (pv 6)) pe_int) (pe_fn G_law_take (hr.mono (by decide)) pass0 (pa_cons (pv 1) (pa_cons (pe_callB (call_min2 rfl) (by rfl) T.f_min (by decide +kernel) (pa_cons (pe_op op_mul (pv 4) (pv 6)) (pa_cons pe_int pa_nil))) pa_nil)))) pa_nil))) (pe_fn G_law_take (hr.mono (by decide)) pass0 (pa_cons (pv 1) (pa_cons pe_int pa_nil))) (fun _ _ => rfl))) (pss_cons (ps_set (i := 13) sc_law.nd rfl (Or.inl rfl) (pe_callB (call_min2 rfl) (by rfl) T.f_min (by decide +kernel) (pa_cons (pe_op op_mul (pv 4) (pv 6)) (pa_cons (pe_op op_add (pv 12) (pe_ix ix_seq (pe_tup (pa_cons pe_int (pa_cons pe_int (pa_cons pe_int pa_nil)))) (pe_fn G_law_take (hr.mono (by decide)) pass0 (pa_cons (pv 1) (pa_cons pe_int pa_nil))) (fun _ _ => rfl))) pa_nil)))) (pss_cons (ps_if (pt_not (pt_truth (pe_fn G_law_same (hr.mono (by decide)) pass0 (pa_cons (pe_meE G_Text_letter (pv 10) (hr.mono (by decide)) (fun σ => passNo σ) (pa_cons (pv 12) pa_nil)) (pa_cons (pe_meE G_Text_letter (pv 8) (hr.mono (by decide)) (fun σ => passNo σ) (pa_cons (pv 12) pa_nil)) pa_nil))) (by intro _; rfl))) (pss_one (ps_ret pe_bl)) pss_nil) (pss_one (ps_if (pt_not (pt_truth (pe_fn G_law_same (hr.mono (by decide)) pass0 (pa_cons (pe_meE G_Text_letters (pv 10) (hr.mono (by decide)) (fun σ => passNo σ) (pa_cons (pv 12) (pa_cons (pv 13) pa_nil))) (pa_cons (pe_meE G_Text_letters (pv 8) (hr.mono (by decide)) (fun σ => passNo σ) (pa_cons (pv 12) (pa_cons (pv 13) pa_nil))) pa_nil))) (by intro _; rfl))) (pss_one (ps_ret pe_bl)) pss_nil))))) pss_nil)))))) (pss_one (ps_ret pe_bl))))))))))))
end
/-! ### the head -/
def d_rule_length : He.DefD := ⟨("rule_length", none), "rule_length", "rule_length", defArgs s_rule_length, defBody s_rule_length, defScope s_rule_length, [], []⟩
def d_earlier : He.DefD := ⟨("earlier", none), "earlier", "earlier", defArgs s_earlier, defBody s_earlier, defScope s_earlier, [], []⟩
def d_fault : He.DefD := ⟨("fault", none), "fault", "fault", defArgs s_fault, defBody s_fault, defScope s_fault, [], []⟩
def d_lengths_of : He.DefD := ⟨("lengths_of", none), "lengths_of", "lengths_of", defArgs s_lengths_of, defBody s_lengths_of, defScope s_lengths_of, [], []⟩
def d_check_rules : He.DefD := ⟨("check_rules", none), "check_rules", "check_rules", defArgs s_check_rules, defBody s_check_rules, defScope s_check_rules, [], []⟩
def d_inner_place : He.DefD := ⟨("inner_place", none), "inner_place", "inner_place", defArgs s_inner_place, defBody s_inner_place, defScope s_inner_place, [], []⟩
def d_inner_parts : He.DefD := ⟨("inner_parts", none), "inner_parts", "inner_parts", defArgs s_inner_parts, defBody s_inner_parts, defScope s_inner_parts, [], []⟩
def d_NoPlace_init : He.DefD := ⟨("NoPlace", some "__init__"), "__init__", "NoPlace.__init__", defArgs s_NoPlace_init, defBody s_NoPlace_init, defScope s_NoPlace_init, [], []⟩
def d_NoPart_init : He.DefD := ⟨("NoPart", some "__init__"), "__init__", "NoPart.__init__", defArgs s_NoPart_init, defBody s_NoPart_init, defScope s_NoPart_init, [], []⟩
def d_Text_init : He.DefD := ⟨("Text", some "__init__"), "__init__", "Text.__init__", defArgs s_Text_init, defBody s_Text_init, defScope s_Text_init, [], []⟩
def d_Text_letter : He.DefD := ⟨("Text", some "letter"), "letter", "Text.letter", defArgs s_Text_letter, defBody s_Text_letter, defScope s_Text_letter, [], []⟩
def d_Text_check_part : He.DefD := ⟨("Text", some "check_part"), "check_part", "Text.check_part", defArgs s_Text_check_part, defBody s_Text_check_part, defScope s_Text_check_part, [], []⟩
def d_Text_letters : He.DefD := ⟨("Text", some "letters"), "letters", "Text.letters", defArgs s_Text_letters, defBody s_Text_letters, defScope s_Text_letters, [], []⟩
def d_law_pool : He.DefD := ⟨("_law_pool", none), "_law_pool", "_law_pool", defArgs s_law_pool, defBody s_law_pool, defScope s_law_pool, [], []⟩
def d_law_take : He.DefD := ⟨("_law_take", none), "_law_take", "_law_take", defArgs s_law_take, defBody s_law_take, defScope s_law_take, [], []⟩
def d_law_is_integer : He.DefD := ⟨("_law_is_integer", none), "_law_is_integer", "_law_is_integer", defArgs s_law_is_integer, defBody s_law_is_integer, defScope s_law_is_integer, [], []⟩
def d_law_same : He.DefD := ⟨("_law_same", none), "_law_same", "_law_same", defArgs s_law_same, defBody s_law_same, defScope s_law_same, [], []⟩
def d_law_written : He.DefD := ⟨("_law_written", none), "_law_written", "_law_written", defArgs s_law_written, defBody s_law_written, defScope s_law_written, [], []⟩
def d_law_number : He.DefD := ⟨("_law_number", none), "_law_number", "_law_number", defArgs s_law_number, defBody s_law_number, defScope s_law_number, [], []⟩
def d_law_next : He.DefD := ⟨("_law_next", none), "_law_next", "_law_next", defArgs s_law_next, defBody s_law_next, defScope s_law_next, [], []⟩
def d_law_made : He.DefD := ⟨("_law_made", none), "_law_made", "_law_made", defArgs s_law_made, defBody s_law_made, defScope s_law_made, [], []⟩
def d_law_rules : He.DefD := ⟨("_law_rules", none), "_law_rules", "_law_rules", defArgs s_law_rules, defBody s_law_rules, defScope s_law_rules, [], []⟩
def d_law_grown : He.DefD := ⟨("_law_grown", none), "_law_grown", "_law_grown", defArgs s_law_grown, defBody s_law_grown, defScope s_law_grown, [], []⟩
def d_law_shifted : He.DefD := ⟨("_law_shifted", none), "_law_shifted", "_law_shifted", defArgs s_law_shifted, defBody s_law_shifted, defScope s_law_shifted, [], []⟩
def d_law : He.DefD := ⟨("law", none), "law", "law", defArgs s_law, defBody s_law, defScope s_law, [], []⟩
def fnL : List He.DefD := [d_rule_length, d_earlier, d_fault, d_lengths_of, d_check_rules, d_inner_place, d_inner_parts, d_NoPlace_init, d_NoPart_init, d_Text_init, d_Text_letter, d_Text_check_part, d_Text_letters, d_law_pool, d_law_take, d_law_is_integer, d_law_same, d_law_written, d_law_number, d_law_next, d_law_made, d_law_rules, d_law_grown, d_law_shifted, d_law]
def faL : List He.Fa := [.free "all", .free "bool", .free "enumerate", .free "int", .free "isinstance", .free "len", .free "list", .free "max", .free "min", .free "range", .free "str", .free "tuple", .str "LETTERS" " !\"#$&'()*+,-./0123456789:;<=>?@ABCDEFGHIJKLMNOPQRSTUVWXYZ[\\]^_`abcdefghijklmnopqrstuvwxyz{|}~", .int "MOST_LETTERS" 1000000000000, .int "MOST_RULES" 60, .int "MOST_TOLD" 1000, .int "MOST_WRITTEN" 64, .glo "SIZES", .cls "Text", .noat "Text" "rules", .noat "Text" "lengths", .noat "Text" "length", .glo "NoPlace", .glo "NoPart", .exc "TooLong", .glo "TooLong", .glo "rule_length", .glo "earlier", .glo "fault", .glo "lengths_of", .glo "check_rules", .glo "inner_place", .glo "inner_parts", .mkr "Text", .glo "Text", .meth "Text" "letter", .meth "Text" "check_part", .meth "Text" "letters", .glo "_law_pool", .glo "_law_take", .glo "_law_is_integer", .glo "_law_same", .glo "_law_written", .glo "_law_number", .glo "_law_next", .glo "_law_made", .glo "_law_rules", .glo "_law_grown", .glo "_law_shifted", .glo "law"]
def exL : List (PySem.W.Frag → Bool) := [(fun K => He.valsB K (He.ga K "SIZES") sizesL), exB "NoPlace" ["place"], exiB "NoPlace", exB "NoPart" ["start", "stop"], exiB "NoPart"]
def exF (K : PySem.W.Frag) : Bool := exL.all fun f => f K
theorem ex_at {K : PySem.W.Frag} (h : exF K = true) (i : Nat) {f : PySem.W.Frag → Bool} (hi : exL[i]? = some f) : f K = true := List.all_eq_true.mp h f (List.mem_of_getElem? hi)
def tsL : List He.Tab := [((fun K => He.ga K "SIZES"), ["letters", "join", "power", "part", "back"])]
abbrev R : PySem.W.OpenRow := PySem.W.OpenLaw.row PySem.Challenge.rw_shortheld_k05_whole_other_rules
abbrev hk : PySem.W.Hook := He.hookX 5 faL fnL tsL [] exF
def ob (s : PySem.W.SharedT) : He.AlX := He.obsX 5 faL fnL tsL [] exF (HandSHeadRun.getT s)
theorem ob_eq (s : PySem.W.SharedT) : ob s = hk.obs s.abs := He.obsX_eq (HandSHeadRun.getT_eq s)
def names : List PySem.Str := ["_wall", "HeldError", "BadRules", "NoPlace", "NoPart", "TooLong", "LETTERS", "MOST_RULES", "MOST_WRITTEN", "MOST_LETTERS", "MOST_TOLD", "SIZES", "rule_length", "earlier", "fault", "lengths_of", "check_rules", "inner_place", "inner_parts", "Text", "_law_pool", "_law_take", "_law_written", "_law_number", "_law_next", "_law_made", "_law_rules", "_law_is_integer", "_law_same", "_law_grown", "_law_shifted"]
theorem run_f (w : World) : HandSHeadRun.RunEq R (PySem.W.view R.prog [34]) hk ob 4000 names (w.withFollow "special-get-raises" false) := by
  intro os
  kernel_rfl
theorem run_t (w : World) : HandSHeadRun.RunEq R (PySem.W.view R.prog [34]) hk ob 4000 names (w.withFollow "special-get-raises" true) := by
  intro os
  kernel_rfl
theorem run (w : World) : HandSHeadRun.RunEq R (PySem.W.view R.prog [34]) hk ob 4000 names w := PySem.W.byRow2 "special-get-raises" (P := fun w => HandSHeadRun.RunEq R (PySem.W.view R.prog [34]) hk ob 4000 names w) run_f run_t w
theorem facts {P : Program} {w : World} {K : PySem.W.Frag} {h : Heap} {mg : Str → Option Value} {f : Addr} (X : K.In h) (Gn : h.Ns mainGlobals mg) (hfa : mg ("law" : Str) = some (.ref f)) (c : He.SaysD faL fnL K) (ct : He.SaysT faL fnL tsL w K) (hex : exF K = true) :
    ∃ fd : FuncData, (∀ (s : Shared) (v : Value), BindsTo s fd ⟨[v], []⟩ [("_law_script", v)]) ∧ ∀ base : Heap, K.In base → base.Ns mainGlobals mg → FnOk P w K mg base CX0 8 f fd ["_law_script"] (sp_law K) := by
  obtain ⟨fd_rule_length, F_rule_length⟩ := c.def_ 0 (d := d_rule_length) rfl
  obtain ⟨fd_earlier, F_earlier⟩ := c.def_ 1 (d := d_earlier) rfl
  obtain ⟨fd_fault, F_fault⟩ := c.def_ 2 (d := d_fault) rfl
  obtain ⟨fd_lengths_of, F_lengths_of⟩ := c.def_ 3 (d := d_lengths_of) rfl
  obtain ⟨fd_check_rules, F_check_rules⟩ := c.def_ 4 (d := d_check_rules) rfl
  obtain ⟨fd_inner_place, F_inner_place⟩ := c.def_ 5 (d := d_inner_place) rfl
  obtain ⟨fd_inner_parts, F_inner_parts⟩ := c.def_ 6 (d := d_inner_parts) rfl
  obtain ⟨fd_NoPlace_init, F_NoPlace_init⟩ := c.def_ 7 (d := d_NoPlace_init) rfl
  obtain ⟨fd_NoPart_init, F_NoPart_init⟩ := c.def_ 8 (d := d_NoPart_init) rfl
  obtain ⟨fd_Text_init, F_Text_init⟩ := c.def_ 9 (d := d_Text_init) rfl
  obtain ⟨fd_Text_letter, F_Text_letter⟩ := c.def_ 10 (d := d_Text_letter) rfl
  obtain ⟨fd_Text_check_part, F_Text_check_part⟩ := c.def_ 11 (d := d_Text_check_part) rfl
  obtain ⟨fd_Text_letters, F_Text_letters⟩ := c.def_ 12 (d := d_Text_letters) rfl
  obtain ⟨fd_law_pool, F_law_pool⟩ := c.def_ 13 (d := d_law_pool) rfl
  obtain ⟨fd_law_take, F_law_take⟩ := c.def_ 14 (d := d_law_take) rfl
  obtain ⟨fd_law_is_integer, F_law_is_integer⟩ := c.def_ 15 (d := d_law_is_integer) rfl
  obtain ⟨fd_law_same, F_law_same⟩ := c.def_ 16 (d := d_law_same) rfl
  obtain ⟨fd_law_written, F_law_written⟩ := c.def_ 17 (d := d_law_written) rfl
  obtain ⟨fd_law_number, F_law_number⟩ := c.def_ 18 (d := d_law_number) rfl
  obtain ⟨fd_law_next, F_law_next⟩ := c.def_ 19 (d := d_law_next) rfl
  obtain ⟨fd_law_made, F_law_made⟩ := c.def_ 20 (d := d_law_made) rfl
  obtain ⟨fd_law_rules, F_law_rules⟩ := c.def_ 21 (d := d_law_rules) rfl
  obtain ⟨fd_law_grown, F_law_grown⟩ := c.def_ 22 (d := d_law_grown) rfl
  obtain ⟨fd_law_shifted, F_law_shifted⟩ := c.def_ 23 (d := d_law_shifted) rfl
  obtain ⟨fd_law, F_law⟩ := c.def_ 24 (d := d_law) rfl
  have e := hfa.symm.trans (He.glo_ok X Gn (c.fact 49 (f := .glo "law") rfl))
  cases e
  have T : Tp w K mg := ⟨He.free_ok X Gn (c.fact 0 (f := .free "all") rfl), He.free_ok X Gn (c.fact 1 (f := .free "bool") rfl), He.free_ok X Gn (c.fact 2 (f := .free "enumerate") rfl), He.free_ok X Gn (c.fact 3 (f := .free "int") rfl), He.free_ok X Gn (c.fact 4 (f := .free "isinstance") rfl), He.free_ok X Gn (c.fact 5 (f := .free "len") rfl), He.free_ok X Gn (c.fact 6 (f := .free "list") rfl), He.free_ok X Gn (c.fact 7 (f := .free "max") rfl), He.free_ok X Gn (c.fact 8 (f := .free "min") rfl), He.free_ok X Gn (c.fact 9 (f := .free "range") rfl), He.free_ok X Gn (c.fact 10 (f := .free "str") rfl), He.free_ok X Gn (c.fact 11 (f := .free "tuple") rfl), He.str_ok X Gn (c.fact 12 (f := .str "LETTERS" " !\"#$&'()*+,-./0123456789:;<=>?@ABCDEFGHIJKLMNOPQRSTUVWXYZ[\\]^_`abcdefghijklmnopqrstuvwxyz{|}~") rfl), He.int_ok X Gn (c.fact 13 (f := .int "MOST_LETTERS" 1000000000000) rfl), He.int_ok X Gn (c.fact 14 (f := .int "MOST_RULES" 60) rfl), He.int_ok X Gn (c.fact 15 (f := .int "MOST_TOLD" 1000) rfl), He.int_ok X Gn (c.fact 16 (f := .int "MOST_WRITTEN" 64) rfl), He.glo_ok X Gn (c.fact 17 (f := .glo "SIZES") rfl), ⟨He.cls_ok (c.fact 18 (f := .cls "Text") rfl), by decide +kernel, fun f hf => by
    simp only [ns_Text, List.mem_cons, List.not_mem_nil, or_false] at hf
    rcases hf with rfl | rfl | rfl
    · exact He.noat_ok (c.fact 19 (f := .noat "Text" "rules") rfl)
    · exact He.noat_ok (c.fact 20 (f := .noat "Text" "lengths") rfl)
    · exact He.noat_ok (c.fact 21 (f := .noat "Text" "length") rfl)
    , by decide +kernel⟩, ct.tab 0 rfl, ⟨tv_of (ex_at hex 0 (f := (fun K => He.valsB K (He.ga K "SIZES") sizesL)) rfl) (.head _), tv_of (ex_at hex 0 (f := (fun K => He.valsB K (He.ga K "SIZES") sizesL)) rfl) (.tail _ (.head _)), tv_of (ex_at hex 0 (f := (fun K => He.valsB K (He.ga K "SIZES") sizesL)) rfl) (.tail _ (.tail _ (.head _))), tv_of (ex_at hex 0 (f := (fun K => He.valsB K (He.ga K "SIZES") sizesL)) rfl) (.tail _ (.tail _ (.tail _ (.head _)))), tv_of (ex_at hex 0 (f := (fun K => He.valsB K (He.ga K "SIZES") sizesL)) rfl) (.tail _ (.tail _ (.tail _ (.tail _ (.head _)))))⟩, exB_ok (ex_at hex 1 (f := exB "NoPlace" ["place"]) rfl), exB_ok (ex_at hex 3 (f := exB "NoPart" ["start", "stop"]) rfl), ⟨(He.exc_ok (c.fact 24 (f := .exc "TooLong") rfl)).1, (He.exc_ok (c.fact 24 (f := .exc "TooLong") rfl)).2.1, (He.exc_ok (c.fact 24 (f := .exc "TooLong") rfl)).2.2.1, (He.exc_ok (c.fact 24 (f := .exc "TooLong") rfl)).2.2.2, He.glo_ok X Gn (c.fact 25 (f := .glo "TooLong") rfl)⟩⟩
  have b := FunD.bindsA (ps := ["_law_script"]) F_law fun _ _ _ _ _ _ us hl => match us, hl with | [_], _ => rfl
  refine ⟨fd_law, fun s v => b s [v] rfl, fun base _ _ => ?_⟩
  have G_rule_length : Fn P w K mg base CX0 "rule_length" 1 ["rule", "lengths"] [] (sp_rule_length K) := ⟨⟨fd_rule_length, [], (ok_rule_length T F_rule_length ), (FunD.bindsN F_rule_length fun _ _ _ _ _ _ us hl => match us, hl with | [_, _], _ => rfl), .nil⟩, F_rule_length.kp, He.glo_ok X Gn (c.fact 26 (f := .glo "rule_length") rfl)⟩
  have G_earlier : Fn P w K mg base CX0 "earlier" 1 ["rule"] [] (sp_earlier K) := ⟨⟨fd_earlier, [], (ok_earlier T F_earlier ), (FunD.bindsN F_earlier fun _ _ _ _ _ _ us hl => match us, hl with | [_], _ => rfl), .nil⟩, F_earlier.kp, He.glo_ok X Gn (c.fact 27 (f := .glo "earlier") rfl)⟩
  have G_fault : Fn P w K mg base CX0 "fault" 2 ["rule", "lengths"] [] (sp_fault K) := ⟨⟨fd_fault, [], (ok_fault T F_fault G_earlier G_rule_length), (FunD.bindsN F_fault fun _ _ _ _ _ _ us hl => match us, hl with | [_, _], _ => rfl), .nil⟩, F_fault.kp, He.glo_ok X Gn (c.fact 28 (f := .glo "fault") rfl)⟩
  have G_lengths_of : Fn P w K mg base CX0 "lengths_of" 2 ["rules"] [] (sp_lengths_of K) := ⟨⟨fd_lengths_of, [], (ok_lengths_of T F_lengths_of G_rule_length), (FunD.bindsN F_lengths_of fun _ _ _ _ _ _ us hl => match us, hl with | [_], _ => rfl), .nil⟩, F_lengths_of.kp, He.glo_ok X Gn (c.fact 29 (f := .glo "lengths_of") rfl)⟩
  have G_check_rules : Fn P w K mg base CX0 "check_rules" 3 ["rules"] [] (sp_check_rules K) := ⟨⟨fd_check_rules, [], (ok_check_rules T F_check_rules G_fault G_rule_length), (FunD.bindsN F_check_rules fun _ _ _ _ _ _ us hl => match us, hl with | [_], _ => rfl), .nil⟩, F_check_rules.kp, He.glo_ok X Gn (c.fact 30 (f := .glo "check_rules") rfl)⟩
  have G_inner_place : Fn P w K mg base CX0 "inner_place" 1 ["rule", "lengths", "place"] [] (sp_inner_place K) := ⟨⟨fd_inner_place, [], (ok_inner_place T F_inner_place ), (FunD.bindsN F_inner_place fun _ _ _ _ _ _ us hl => match us, hl with | [_, _, _], _ => rfl), .nil⟩, F_inner_place.kp, He.glo_ok X Gn (c.fact 31 (f := .glo "inner_place") rfl)⟩
  have G_inner_parts : Fn P w K mg base CX0 "inner_parts" 1 ["rule", "lengths", "start", "stop"] [] (sp_inner_parts K) := ⟨⟨fd_inner_parts, [], (ok_inner_parts T F_inner_parts ), (FunD.bindsN F_inner_parts fun _ _ _ _ _ _ us hl => match us, hl with | [_, _, _, _], _ => rfl), .nil⟩, F_inner_parts.kp, He.glo_ok X Gn (c.fact 32 (f := .glo "inner_parts") rfl)⟩
  have G_NoPlace_init : Exi P w K mg base CX0 "NoPlace" 1 ["self", "place"] [] (sp_NoPlace_init K) := ⟨T.k_NoPlace.ox, ⟨fd_NoPlace_init, [], (ok_NoPlace_init T F_NoPlace_init ), (FunD.bindsN F_NoPlace_init fun _ _ _ _ _ _ us hl => match us, hl with | [_, _], _ => rfl), .nil⟩, (exiB_ok (ex_at hex 2 (f := exiB "NoPlace") rfl)).1, (exiB_ok (ex_at hex 2 (f := exiB "NoPlace") rfl)).2, He.glo_ok X Gn (c.fact 22 (f := .glo "NoPlace") rfl)⟩
  have G_NoPart_init : Exi P w K mg base CX0 "NoPart" 1 ["self", "start", "stop"] [] (sp_NoPart_init K) := ⟨T.k_NoPart.ox, ⟨fd_NoPart_init, [], (ok_NoPart_init T F_NoPart_init ), (FunD.bindsN F_NoPart_init fun _ _ _ _ _ _ us hl => match us, hl with | [_, _, _], _ => rfl), .nil⟩, (exiB_ok (ex_at hex 4 (f := exiB "NoPart") rfl)).1, (exiB_ok (ex_at hex 4 (f := exiB "NoPart") rfl)).2, He.glo_ok X Gn (c.fact 23 (f := .glo "NoPart") rfl)⟩
  have G_Text_init : Mkr P w K mg base CX0 "Text" 4 ["self", "rules"] [] (sp_Text_init K) := ⟨⟨fd_Text_init, [], (ok_Text_init T F_Text_init G_check_rules G_lengths_of), (FunD.bindsN F_Text_init fun _ _ _ _ _ _ us hl => match us, hl with | [_, _], _ => rfl), .nil⟩, He.mkr_ok (c.fact 33 (f := .mkr "Text") rfl), He.glo_ok X Gn (c.fact 34 (f := .glo "Text") rfl)⟩
  have G_Text_letter : Me P w K mg base (L2.CX P w) "Text" "letter" 3 ["self", "place"] [] (sp_Text_letter K) := ⟨⟨fd_Text_letter, [], (ok_Text_letter T F_Text_letter G_NoPlace_init G_inner_place), (FunD.bindsN F_Text_letter fun _ _ _ _ _ _ us hl => match us, hl with | [_, _], _ => rfl), .nil⟩, He.cls_ok (c.fact 18 (f := .cls "Text") rfl), He.meth_ok (c.fact 35 (f := .meth "Text" "letter") rfl)⟩
  have G_Text_check_part : Me P w K mg base (L2.CX P w) "Text" "check_part" 3 ["self", "start", "stop"] [] (sp_Text_check_part K) := ⟨⟨fd_Text_check_part, [], (ok_Text_check_part T F_Text_check_part G_NoPart_init), (FunD.bindsN F_Text_check_part fun _ _ _ _ _ _ us hl => match us, hl with | [_, _, _], _ => rfl), .nil⟩, He.cls_ok (c.fact 18 (f := .cls "Text") rfl), He.meth_ok (c.fact 36 (f := .meth "Text" "check_part") rfl)⟩
  have G_Text_letters : Me P w K mg base (L2.CX P w) "Text" "letters" 4 ["self", "start", "stop"] [] (sp_Text_letters K) := ⟨⟨fd_Text_letters, [], (ok_Text_letters T F_Text_letters G_Text_check_part G_inner_parts), (FunD.bindsN F_Text_letters fun _ _ _ _ _ _ us hl => match us, hl with | [_, _, _], _ => rfl), .nil⟩, He.cls_ok (c.fact 18 (f := .cls "Text") rfl), He.meth_ok (c.fact 37 (f := .meth "Text" "letters") rfl)⟩
  have G_law_pool : Fn P w K mg base CX0 "_law_pool" 1 ["_law_script"] [] (sp_law_pool K) := ⟨⟨fd_law_pool, [], (ok_law_pool T F_law_pool ), (FunD.bindsN F_law_pool fun _ _ _ _ _ _ us hl => match us, hl with | [_], _ => rfl), .nil⟩, F_law_pool.kp, He.glo_ok X Gn (c.fact 38 (f := .glo "_law_pool") rfl)⟩
  have G_take0 : Fn P w K mg base CX0 "_law_take" 0 ["_law_pool_here", "_law_many"] [] (fun _ _ _ _ => False) := ⟨⟨fd_law_take, [], ⟨fun _ _ _ _ h => False.elim h, fun _ _ _ _ _ _ _ _ _ _ _ _ _ h => False.elim h⟩, (FunD.bindsN F_law_take fun _ _ _ _ _ _ us hl => match us, hl with | [_, _], _ => rfl), .nil⟩, F_law_take.kp, He.glo_ok X Gn (c.fact 39 (f := .glo "_law_take") rfl)⟩
  have G_take1 : Fn P w K mg base CX0 "_law_take" 1 ["_law_pool_here", "_law_many"] [] (sp_law_take0 K) := ⟨⟨fd_law_take, [], (ok_law_take T F_law_take G_take0 (fun vs H Q E h => by (repeat obtain ⟨_, h⟩ := h); subst_vars; rfl) (pure_law_take0 _)), (FunD.bindsN F_law_take fun _ _ _ _ _ _ us hl => match us, hl with | [_, _], _ => rfl), .nil⟩, F_law_take.kp, He.glo_ok X Gn (c.fact 39 (f := .glo "_law_take") rfl)⟩
  have G_law_take : Fn P w K mg base CX0 "_law_take" 2 ["_law_pool_here", "_law_many"] [] (sp_law_take K) := ⟨⟨fd_law_take, [], (ok_law_take T F_law_take G_take1 (fun vs H Q E h => by (repeat obtain ⟨_, h⟩ := h); subst_vars; rfl) pure_law_take), (FunD.bindsN F_law_take fun _ _ _ _ _ _ us hl => match us, hl with | [_, _], _ => rfl), .nil⟩, F_law_take.kp, He.glo_ok X Gn (c.fact 39 (f := .glo "_law_take") rfl)⟩
  have G_law_is_integer : Fn P w K mg base CX0 "_law_is_integer" 1 ["_law_actual"] [] (sp_law_is_integer) := ⟨⟨fd_law_is_integer, [], (ok_law_is_integer T F_law_is_integer ), (FunD.bindsN F_law_is_integer fun _ _ _ _ _ _ us hl => match us, hl with | [_], _ => rfl), .nil⟩, F_law_is_integer.kp, He.glo_ok X Gn (c.fact 40 (f := .glo "_law_is_integer") rfl)⟩
  have G_same0 : Fn P w K mg base CX0 "_law_same" 1 ["_law_actual", "_law_due"] [] (fun _ _ _ _ => False) := ⟨⟨fd_law_same, [], ⟨fun _ _ _ _ h => False.elim h, fun _ _ _ _ _ _ _ _ _ _ _ _ _ h => False.elim h⟩, (FunD.bindsN F_law_same fun _ _ _ _ _ _ us hl => match us, hl with | [_, _], _ => rfl), .nil⟩, F_law_same.kp, He.glo_ok X Gn (c.fact 41 (f := .glo "_law_same") rfl)⟩
  have G_sameN : ∀ n, Fn P w K mg base CX0 "_law_same" (n + 2) ["_law_actual", "_law_due"] [] (sp_law_same K n) := fun n => by
    induction n with
    | zero => exact ⟨⟨fd_law_same, [], (ok_law_same T F_law_same G_same0 G_law_is_integer (by omega) (fun vs H Q E h => by (repeat obtain ⟨_, h⟩ := h); subst_vars; rfl) (pure_law_same 0 _ fun m e => by omega)), (FunD.bindsN F_law_same fun _ _ _ _ _ _ us hl => match us, hl with | [_, _], _ => rfl), .nil⟩, F_law_same.kp, He.glo_ok X Gn (c.fact 41 (f := .glo "_law_same") rfl)⟩
    | succ n ih => exact ⟨⟨fd_law_same, [], (ok_law_same T F_law_same ih G_law_is_integer (by omega) (fun vs H Q E h => by (repeat obtain ⟨_, h⟩ := h); subst_vars; rfl) (pure_law_same (n + 1) _ fun m e => by cases e; exact fun _ _ _ _ h => h)), (FunD.bindsN F_law_same fun _ _ _ _ _ _ us hl => match us, hl with | [_, _], _ => rfl), .nil⟩, F_law_same.kp, He.glo_ok X Gn (c.fact 41 (f := .glo "_law_same") rfl)⟩
  have G_law_same := G_sameN 3
  have G_law_written : Fn P w K mg base CX0 "_law_written" 3 ["_law_pool_here"] [] (sp_law_written K) := ⟨⟨fd_law_written, [], (ok_law_written T F_law_written G_law_take), (FunD.bindsN F_law_written fun _ _ _ _ _ _ us hl => match us, hl with | [_], _ => rfl), .nil⟩, F_law_written.kp, He.glo_ok X Gn (c.fact 42 (f := .glo "_law_written") rfl)⟩
  have G_law_number : Fn P w K mg base CX0 "_law_number" 3 ["_law_pool_here", "_law_many"] [] (sp_law_number K) := ⟨⟨fd_law_number, [], (ok_law_number T F_law_number G_law_take), (FunD.bindsN F_law_number fun _ _ _ _ _ _ us hl => match us, hl with | [_, _], _ => rfl), .nil⟩, F_law_number.kp, He.glo_ok X Gn (c.fact 43 (f := .glo "_law_number") rfl)⟩
  have G_law_next : Fn P w K mg base CX0 "_law_next" 4 ["_law_pool_here", "_law_texts", "_law_most"] [] (sp_law_next K) := ⟨⟨fd_law_next, [], (ok_law_next T F_law_next G_law_take G_law_written G_law_number), (FunD.bindsN F_law_next fun _ _ _ _ _ _ us hl => match us, hl with | [_, _, _], _ => rfl), .nil⟩, F_law_next.kp, He.glo_ok X Gn (c.fact 44 (f := .glo "_law_next") rfl)⟩
  have G_law_made : Fn P w K mg base CX0 "_law_made" 1 ["_law_texts", "_law_rule"] [] (sp_law_made K) := ⟨⟨fd_law_made, [], (ok_law_made T F_law_made ), (FunD.bindsN F_law_made fun _ _ _ _ _ _ us hl => match us, hl with | [_, _], _ => rfl), .nil⟩, F_law_made.kp, He.glo_ok X Gn (c.fact 45 (f := .glo "_law_made") rfl)⟩
  have G_law_rules : Fn P w K mg base CX0 "_law_rules" 5 ["_law_pool_here", "_law_most"] [] (sp_law_rules K) := ⟨⟨fd_law_rules, [], (ok_law_rules T F_law_rules G_law_take G_law_next G_law_made), (FunD.bindsN F_law_rules fun _ _ _ _ _ _ us hl => match us, hl with | [_, _], _ => rfl), .nil⟩, F_law_rules.kp, He.glo_ok X Gn (c.fact 46 (f := .glo "_law_rules") rfl)⟩
  have G_law_grown : Fn P w K mg base CX0 "_law_grown" 1 ["_law_rules_here", "_law_texts", "_law_cut", "_law_times", "_law_first"] [] (sp_law_grown K) := ⟨⟨fd_law_grown, [], (ok_law_grown T F_law_grown ), (FunD.bindsN F_law_grown fun _ _ _ _ _ _ us hl => match us, hl with | [_, _, _, _, _], _ => rfl), .nil⟩, F_law_grown.kp, He.glo_ok X Gn (c.fact 47 (f := .glo "_law_grown") rfl)⟩
  have G_law_shifted : Fn P w K mg base CX0 "_law_shifted" 1 ["_law_rules_here", "_law_size", "_law_cut", "_law_times"] [] (sp_law_shifted K) := ⟨⟨fd_law_shifted, [], (ok_law_shifted T F_law_shifted ), (FunD.bindsN F_law_shifted fun _ _ _ _ _ _ us hl => match us, hl with | [_, _, _, _], _ => rfl), .nil⟩, F_law_shifted.kp, He.glo_ok X Gn (c.fact 48 (f := .glo "_law_shifted") rfl)⟩
  exact ok_law T F_law G_law_pool G_law_rules G_law_take G_Text_init G_law_shifted G_law_grown G_law_same G_Text_letter G_Text_letters
end Sh
open PySem PySem.W PySem.Calls PyProof.Rows
set_option maxRecDepth 100000 in
set_option maxHeartbeats 0 in
theorem PySem.Challenge.cw_shortheld_k05_whole_other_rules_holds : PySem.Challenge.rw_shortheld_k05_whole_other_rules.Holds := by
  w_on; o_law
  refine HandSHeadRun.head_any (r := OpenLaw.row PySem.Challenge.rw_shortheld_k05_whole_other_rules) (q := view (OpenLaw.row PySem.Challenge.rw_shortheld_k05_whole_other_rules).prog [34]) (H := Sh.hk) (ob := Sh.ob) (M := 4000) (loose := Sh.names) (d := HandSHeadRun.topDef (OpenLaw.row PySem.Challenge.rw_shortheld_k05_whole_other_rules).prog 34) (kwd := []) Sh.ob_eq
    (by kernel_rfl) (fun s => by kernel_rfl) Sh.run (by kernel_rfl) (by kernel_rfl) (by kernel_rfl) (by rfl) (by first | assumption | decide +kernel) (by decide +kernel) ⟨rfl, rfl, rfl, rfl, rfl, by decide +kernel⟩ ?hw ?hc
  case hw => w_witness2
  case hc =>
    refine L2.walk_ofE (l := PySem.Challenge.rw_shortheld_k05_whole_other_rules) (n := 63) (k := 8) (x := "_law_script") (CX := L2.CX0) rfl (by decide) (by kernel_rfl) ⟨rfl, by decide, by decide⟩ ?F (fun _ _ _ _ z => z)
    intro w mg fa h Y G hmg0
    obtain ⟨K, KX, c⟩ := Y
    have hmg : mg ("law" : PySem.Str) = some (.ref fa) := by
      have e : (HandSHeadRun.topDef (OpenLaw.row PySem.Challenge.rw_shortheld_k05_whole_other_rules).prog 34).name = ("law" : PySem.Str) := by kernel_rfl
      rw [← e]
      exact hmg0
    obtain ⟨fd, hb, hF⟩ := Sh.facts (P := (PySem.Challenge.rw_shortheld_k05_whole_other_rules).prog) (w := w) KX G hmg c.t.d c.t c.more
    exact ⟨K, fd, Sh.sp_law K, KX, hb, fun H a ns hl _ hS => ⟨a, ns, rfl, hS, hl, fun _ => rfl⟩, hF⟩
#print axioms PySem.Challenge.cw_shortheld_k05_whole_other_rules_holds

